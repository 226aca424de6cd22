import PyProof.Rows.All
import Wide.All
import OpenK.AllK
import Wide.FinOn
import HandS.ForMost
import HandS.More
import HandS.Wide
import HandS.TupAny
import HandS.Deep
import HandS.IsInst
import HandS.SortInts
import HandS.Conv
import HandS.Style
import HandS.TupMul
import HandS.TupLen
import KE.LtData
import HandS.WordsList
import HandS.Strs
import HandS.Set
import HandS.SetFor
import KE.GoesMore
import HandS.Iter
import HandS.Zip
import HandS.Codes
import HandS.DictComp
import KE.KDictPairs
import KE.KDictDisplayH
import HandS.NoneIn
import HandS.Small
import HandS.Exc
import HandS.Defaults
import HandS.Words
import HandS.LawCells
import KE.KStateDown
import HandS.Ends
import HandS.WordsExc
import HandS.Head0
import HandS.Head1
import HandS.Head2
import HandS.HeadEnd
import HandS.HeadHook1
import HandS.HeadHook2
import HandS.HeadHook3
import HandS.HeadHook4
import Lean
import PySem.Challenge.RW_onlygroups_k02_choices_and_gaps_of_rows
section
set_option linter.all false
set_option maxRecDepth 100000
/-! Own small language: trees as values, one interpreter. No model here. -/
namespace Og
open PySem

abbrev D := PyData
abbrev Hist := List Int

/-- how a value may be used: wk: a variable's own mutable list, read at once; ct: a constant of the module, read at once; pl: plain; fr: new, held by nobody else -/
inductive Fl where
  | wk | ct | pl | fr
  deriving DecidableEq

/-- what a slot holds: data; a list or dict of one's own, that may be changed; the box of draws -/
inductive SV where
  | d (x : D) | own (x : D) | box

abbrev Sl := List (Option SV)

inductive Arg where
  | d (x : D) (f : Fl) | box

inductive RE where
  | ok (x : D) (f : Fl) (h : Hist) | no
inductive RA where
  | ok (xs : List Arg) (h : Hist) | no
inductive RT where
  | ok (b : Bool) (h : Hist) | no
inductive RI where
  | ok (xs : List D) (h : Hist) | no
inductive RD where
  | ok (ps : List (D × D)) (h : Hist) | no

inductive Bop where
  | add | sub | mul | fdiv | mod | pow
  deriving DecidableEq
inductive Cop where
  | eq | ne | lt | le | gt | ge | is_ | isn | in_ | nin
  deriving DecidableEq
/-- built-in functions; the tests isinstance(x, ..) by name -/
inductive Blt where
  | len | tuple | list | listR | sorted | sum | all | any | abs | max2 | min2 | int1 | lenset | sortedset | dict1
  | isInt | isBool | isStr | isTuple | isList | isSeq | isSeq2 | isBoolStr | str1 | minL | maxL | maxD
  deriving DecidableEq
/-- what is walked: a list or tuple; range; enumerate; zip; d.items() -/
inductive Kd where
  | seq | rng1 | rng2 | rng3 | enum | zip | items | values
  deriving DecidableEq
inductive Met where
  | get2 | count1 | index1 | join1
  deriving DecidableEq
inductive Tg where
  | nm (i : Nat) | nil | cons (a b : Tg)

inductive E where
  | nil | cons (a b : E) | bad
  | var (i : Nat) | int (i : Int) | str (s : Str) | bl (b : Bool) | non | glo (k : Nat)
  | tup (es : E) | lst (es : E) | dic (ks vs : E)
  | bin (op : Bop) (a b : E) | neg (a : E) | not (a : E) | and (a b : E) | or (a b : E) | ite (c a b : E)
  | cmp (op : Cop) (a b : E) | chn (o1 o2 : Cop) (a b c : E)
  | call (f : Nat) (es : E) | callk (f : Nat) (ps : List Nat) (es : E)
  | take (b n : E)
  | blt (b : Blt) (es : E) | met (m : Met) (o es : E)
  | sub (a i : E) | slc (a lo hi : E)
  | comp (elt : E) (own : List Nat) (tg : Tg) (k : Kd) (its ifs : E)
  | dcomp (key val : E) (own : List Nat) (tg : Tg) (k : Kd) (its : E)

inductive S where
  | skip | seq (a b : S)
  | asg (tg : Tg) (e : E)
  | own (i : Nat) (e : E)
  | par (is : List (Nat × Bool)) (es : E)
  | aug (i : Nat) (op : Bop) (e : E)
  | setsub (i : Nat) (ix e : E)
  | augsub (i : Nat) (op : Bop) (ix e : E)
  | app (i : Nat) (e : E) | ext (i : Nat) (e : E) | pop0 (i : Nat) | popTo (j i : Nat) | rem (i : Nat) (e : E) | pop1 (i : Nat) (e : E) | ins (i : Nat) (a e : E)
  | ifs (c : E) (a b : S)
  | for_ (tg : Tg) (k : Kd) (its : E) (body : S)
  | while_ (c : E) (body : S)
  | ret (e : E) | retOwn (i : Nat) | brk | cont | frz (i : Nat) | exp (e : E) | bad

inductive Out where
  | nx (σ : Sl) (h : Hist) | ret (x : D) (f : Fl) (h : Hist) | bk (σ : Sl) (h : Hist) | ct (σ : Sl) (h : Hist) | no

/-! ### slots -/
def getS : Sl → Nat → Option SV
  | [], _ => none
  | a :: _, 0 => a
  | _ :: r, i + 1 => getS r i
def setS : Sl → Nat → Option SV → Sl
  | [], _, _ => []
  | _ :: r, 0, v => v :: r
  | a :: r, i + 1, v => a :: setS r i v
def wipeS (σ : Sl) : List Nat → Sl
  | [] => σ
  | i :: is => setS (wipeS σ is) i none

/-! ### intsD made plain -/
def nF {α : Type} (n : Nat) (k : Nat → α) : α := match n with
  | 0 => k 0
  | m + 1 => k (m + 1)
def iF {α : Type} (i : Int) (k : Int → α) : α := match i with
  | .ofNat n => nF n fun n => k (.ofNat n)
  | .negSucc n => nF n fun n => k (.negSucc n)
theorem nF_eq {α : Type} (n : Nat) (k : Nat → α) : nF n k = k n := by cases n <;> rfl
theorem iF_eq {α : Type} (i : Int) (k : Int → α) : iF i k = k i := by
  cases i with
  | ofNat n => exact nF_eq n fun n => k (.ofNat n)
  | negSucc n => exact nF_eq n fun n => k (.negSucc n)
def mkI (i : Int) (h : Hist) : RE := .ok (.int i) .pl h
theorem mkI_eq (i : Int) (h : Hist) : mkI i h = .ok (.int i) .pl h := rfl
def mkB (b : Bool) (h : Hist) : RE := .ok (.bool b) .pl h
theorem mkB_eq (b : Bool) (h : Hist) : mkB b h = .ok (.bool b) .pl h := rfl

/-! ### operations by values -/
def small (i : Int) : Bool := match i with
  | .ofNat n => Nat.blt n 18446744073709551616
  | .negSucc n => Nat.blt n 18446744073709551615
def lenOk (n : Nat) : Bool := Nat.ble n 16777216
def leI (a b : Int) : Bool := match a, b with
  | .ofNat m, .ofNat n => Nat.ble m n
  | .ofNat _, .negSucc _ => false
  | .negSucc _, .ofNat _ => true
  | .negSucc m, .negSucc n => Nat.ble n m
def eqI (a b : Int) : Bool := match a, b with
  | .ofNat m, .ofNat n => Nat.beq m n
  | .ofNat _, .negSucc _ => false
  | .negSucc _, .ofNat _ => false
  | .negSucc m, .negSucc n => Nat.beq m n
def ltI (a b : Int) : Bool := leI (a + 1) b

def wide (i : Int) : Bool := leI (-4611686018427387904) i && ltI i 4611686018427387904
def cps (s : Str) : List Nat := s.cps.toList
def eqN : List Nat → List Nat → Bool
  | [], [] => true
  | a :: r, b :: t => Nat.beq a b && eqN r t
  | [], _ :: _ => false
  | _ :: _, [] => false
def ltN : List Nat → List Nat → Bool
  | [], [] => false
  | [], _ :: _ => true
  | _ :: _, [] => false
  | a :: r, b :: t => match Nat.beq a b with
    | true => ltN r t
    | false => Nat.blt a b
def eqS (a b : Str) : Bool := eqN (cps a) (cps b)


def cEq (a b : D) (h : Hist) : RE := match SeqAt.shaped a && SeqAt.shaped b with
  | true => mkB (PyData.eqv a b) h
  | false => .no
def cNe (a b : D) (h : Hist) : RE := match SeqAt.shaped a && SeqAt.shaped b with
  | true => mkB (!PyData.eqv a b) h
  | false => .no
/-- flat things: what in looks at -/
def flat : D → Bool
  | .none => true
  | .bool _ => true
  | .int _ => true
  | .str _ => true
  | _ => false
def inD (x : D) (ys : List D) : Bool := ys.any fun y => PyData.eqv y x
def shapedL (ys : List D) : Bool := ys.all SeqAt.shaped
def hasKey (k : D) : List (D × D) → Bool
  | [] => false
  | (q, _) :: r => match PyData.eqv q k with
    | true => true
    | false => hasKey k r
def getKey (k : D) : List (D × D) → Option D
  | [] => none
  | (q, v) :: r => match PyData.eqv q k with
    | true => some v
    | false => getKey k r
def mapKey (k v : D) : List (D × D) → List (D × D)
  | [] => []
  | (q, u) :: r => match PyData.eqv q k with
    | true => (q, v) :: mapKey k v r
    | false => (q, u) :: mapKey k v r
def putKey (k v : D) (ds : List (D × D)) : List (D × D) := match hasKey k ds with
  | true => mapKey k v ds
  | false => ds ++ [(k, v)]
/-- keys that a dict may have here: intsD, texts, tuples of these -/
def keyA : D → Bool
  | .int _ => true
  | .str _ => true
  | _ => false
def keyT : D → Bool
  | .tuple xs => xs.all keyA
  | _ => false
/-- may k be a key beside those -/
def keyOk (k : D) (kvs : List (D × D)) : Bool := match keyA k with
  | true => kvs.all fun p => keyA p.1
  | false => keyT k && kvs.all fun p => keyT p.1
def cIn (neg : Bool) (a b : D) (h : Hist) : RE := match b with
  | .list ys => (match SeqAt.shaped a && shapedL ys with
    | true => mkB (neg != inD a ys) h
    | false => .no)
  | .tuple ys => (match SeqAt.shaped a && shapedL ys with
    | true => mkB (neg != inD a ys) h
    | false => .no)
  | .dict kvs => (match keyOk a kvs with
    | true => mkB (neg != hasKey a kvs) h
    | false => .no)
  | _ => .no
def cLt (a b : D) (h : Hist) : RE := match a, b with
  | .int i, .int j => mkB (ltI i j) h
  | .str x, .str y => mkB (ltN (cps x) (cps y)) h
  | _, _ => .no
def cLe (a b : D) (h : Hist) : RE := match a, b with
  | .int i, .int j => mkB (leI i j) h
  | _, _ => .no
def cIs (neg : Bool) (a b : D) (h : Hist) : RE := match b with
  | .none => (match a with
    | .none => mkB (!neg) h
    | _ => mkB neg h)
  | .bool c => (match a with
    | .bool d => mkB (neg != (c == d)) h
    | _ => .no)
  | _ => .no
def cmpV (op : Cop) (a b : D) (h : Hist) : RE := match op with
  | .eq => cEq a b h
  | .ne => cNe a b h
  | .lt => cLt a b h
  | .le => cLe a b h
  | .gt => cLt b a h
  | .ge => cLe b a h
  | .is_ => cIs false a b h
  | .isn => cIs true a b h
  | .in_ => cIn false a b h
  | .nin => cIn true a b h
def repL (xs : List D) : Nat → List D
  | 0 => []
  | n + 1 => xs ++ repL xs n
def addV (a b : D) (h : Hist) : RE := match a, b with
  | .int i, .int j => mkI (i + j) h
  | .list xs, .list ys => (match lenOk (xs.length + ys.length) with
    | true => .ok (.list (xs ++ ys)) .fr h
    | false => .no)
  | .tuple xs, .tuple ys => (match lenOk (xs.length + ys.length) with
    | true => .ok (.tuple (xs ++ ys)) .pl h
    | false => .no)
  | _, _ => .no
def mulV (a b : D) (h : Hist) : RE := match a, b with
  | .int i, .int j => (match small i || small j with
    | true => mkI (i * j) h
    | false => .no)
  | .list xs, .int j => (match wide j && lenOk (xs.length * j.toNat) with
    | true => .ok (.list (repL xs j.toNat)) .fr h
    | false => .no)
  | .tuple xs, .int j => (match !xs.isEmpty && (leI 2 j && (leI j 1000 && Nat.ble xs.length 1000)) with
    | true => .ok (.tuple (repL xs j.toNat)) .pl h
    | false => .no)
  | _, _ => .no
def binV (op : Bop) (a b : D) (h : Hist) : RE := match op with
  | .add => addV a b h
  | .mul => mulV a b h
  | .sub => (match a, b with
    | .int i, .int j => mkI (i - j) h
    | _, _ => .no)
  | .fdiv => (match a, b with
    | .int i, .int j => (match small j && ltI 0 j with
      | true => mkI (i / j) h
      | false => .no)
    | _, _ => .no)
  | .mod => (match a, b with
    | .int i, .int j => (match ltI 0 j with
      | true => mkI (i % j) h
      | false => .no)
    | _, _ => .no)
  | .pow => (match a, b with
    | .int i, .int j => (match small i && leI 0 j && leI j 1000 with
      | true => mkI (i ^ j.toNat) h
      | false => .no)
    | _, _ => .no)
/-- truth -/
def truD : D → Option Bool
  | .none => some false
  | .bool b => some b
  | .int i => some (!eqI i 0)
  | .list xs => some (!xs.isEmpty)
  | .tuple xs => some (!xs.isEmpty)
  | _ => none
/-! ### items, slices -/
def nth : List D → Nat → Option D
  | [], _ => none
  | a :: _, 0 => some a
  | _ :: r, n + 1 => nth r n
def ixI (n : Nat) (i : Int) : Option Nat := match i with
  | .ofNat k => (match Nat.blt k n with
    | true => some k
    | false => none)
  | .negSucc k => (match Nat.blt k n with
    | true => some (n - 1 - k)
    | false => none)
def subL (xs : List D) (i : Int) (h : Hist) : RE := match ixI xs.length i with
  | some k => (match nth xs k with
    | some x => .ok x .pl h
    | none => .no)
  | none => .no
def subV (a b : D) (h : Hist) : RE := match a, b with
  | .list xs, .int i => subL xs i h
  | .tuple xs, .int i => subL xs i h
  | .dict kvs, k => (match keyOk k kvs with
    | true => (match getKey k kvs with
      | some v => .ok v .pl h
      | none => .no)
    | false => .no)
  | _, _ => .no
/-- a slice's end: clipped -/
def clip (n : Nat) (i : Int) : Nat := match i with
  | .ofNat k => min k n
  | .negSucc k => n - (k + 1)
def cLo (n : Nat) : Option Int → Nat
  | none => 0
  | some i => clip n i
def cHi (n : Nat) : Option Int → Nat
  | none => n
  | some i => clip n i
def cutL (xs : List D) (lo hi : Option Int) : List D := (xs.take (cHi xs.length hi)).drop (cLo xs.length lo)
def cutV (a : D) (lo hi : Option Int) (h : Hist) : RE := match a with
  | .list xs => .ok (.list (cutL xs lo hi)) .fr h
  | .tuple xs => .ok (.tuple (cutL xs lo hi)) .pl h
  | _ => .no

/-! ### built-ins -/
def intsD : List D → Option (List Int)
  | [] => some []
  | .int i :: r => (match intsD r with
    | some l => some (i :: l)
    | none => none)
  | _ => none
def insI (x : Int) : List Int → List Int
  | [] => [x]
  | y :: r => match leI x y with
    | true => x :: y :: r
    | false => y :: insI x r
def srtI : List Int → List Int
  | [] => []
  | x :: r => insI x (srtI r)
def dupI : List Int → List Int
  | [] => []
  | x :: r => match r.any (eqI x) with
    | true => dupI r
    | false => x :: dupI r
def sumI : List Int → Int
  | [] => 0
  | x :: r => x + sumI r
def sumF : List Int → Int → Int
  | [], a => a
  | x :: r, a => iF (a + x) fun b => sumF r b
def dI (l : List Int) : List D := l.map PyData.int
/-! alike data: ints, texts, tuples of these -/
mutual
def alkD : D → D → Bool
  | .int _, .int _ => true
  | .str _, .str _ => true
  | .tuple xs, .tuple ys => alkL xs ys
  | _, _ => false
def alkL : List D → List D → Bool
  | x :: xs, y :: ys => alkD x y && alkL xs ys
  | [], _ => true
  | _ :: _, [] => true
end
mutual
def ltDD : D → D → Bool
  | .int i, .int j => ltI i j
  | .str x, .str y => ltN (cps x) (cps y)
  | .tuple xs, .tuple ys => ltDL xs ys
  | _, _ => false
def ltDL : List D → List D → Bool
  | [], [] => false
  | [], _ :: _ => true
  | _ :: _, [] => false
  | x :: xs, y :: ys => (match PyData.eqv x y with
    | true => ltDL xs ys
    | false => ltDD x y)
end
/-- the order of tuples: alike as far as they are looked at -/
def cmpTs : List D → List D → Option Bool
  | [], [] => some false
  | [], _ :: _ => some true
  | _ :: _, [] => some false
  | x :: xs, y :: ys => (match alkD x y with
    | true => (match PyData.eqv x y with
      | true => cmpTs xs ys
      | false => some (ltDD x y))
    | false => none)
def cmpD : D → D → Option Bool
  | .tuple (x :: xs), .tuple (y :: ys) => cmpTs (x :: xs) (y :: ys)
  | _, _ => none
def someB : Option Bool → Bool
  | some _ => true
  | none => false
def allCmp : List D → Bool
  | [] => true
  | x :: r => (PyData.canLay0 x && Nat.ble x.depth 60) && (someB (cmpD x x) && ((r.all fun y => someB (cmpD x y) && someB (cmpD y x)) && allCmp r))
def insT (x : D) : List D → List D
  | [] => [x]
  | y :: r => (match cmpD y x with
    | some true => y :: insT x r
    | _ => x :: y :: r)
def srtL : List D → List D
  | [] => []
  | x :: r => insT x (srtL r)
def srtT (xs : List D) : Option (List D) := match allCmp xs with
  | true => some (srtL xs)
  | false => none
def seqOf : D → Option (List D)
  | .list xs => some xs
  | .tuple xs => some xs
  | _ => none
def boolsD : List D → Option (List Bool)
  | [] => some []
  | .bool b :: r => (match boolsD r with
    | some l => some (b :: l)
    | none => none)
  | _ => none
def rngN : Nat → Int → List D
  | 0, _ => []
  | n + 1, i => iF i fun i => .int i :: rngN n (i + 1)
def rngC : Nat → Int → Int → List D
  | 0, _, _ => []
  | n + 1, i, c => iF i fun i => .int i :: rngC n (i + c) c
def pairs : List D → Option (List (D × D))
  | [] => some []
  | .tuple [k, v] :: r => (match pairs r with
    | some l => some ((k, v) :: l)
    | none => none)
  | _ => none
def mergeD : List (D × D) → List (D × D) → Option (List (D × D))
  | [], acc => some acc
  | (k, v) :: r, acc => (match keyOk k acc with
    | true => mergeD r (putKey k v acc)
    | false => none)
def isIntD : D → Bool
  | .int _ => true
  | .bool _ => true
  | _ => false
def isBoolD : D → Bool
  | .bool _ => true
  | _ => false
def isStrD : D → Bool
  | .str _ => true
  | _ => false
def isTupD : D → Bool
  | .tuple _ => true
  | _ => false
def isLstD : D → Bool
  | .list _ => true
  | _ => false
def noDict : D → Bool
  | .dict _ => false
  | _ => true
def bltV (b : Blt) (as : List D) (h : Hist) : RE := match b, as with
  | .len, [x] => (match x with
    | .list xs => mkI xs.length h
    | .tuple xs => mkI xs.length h
    | .dict kvs => mkI kvs.length h
    | _ => .no)
  | .tuple, [x] => (match x with
    | .list xs => .ok (.tuple xs) .pl h
    | .tuple xs => .ok (.tuple xs) .pl h
    | _ => .no)
  | .list, [x] => (match x with
    | .list xs => .ok (.list xs) .fr h
    | .tuple xs => .ok (.list xs) .fr h
    | _ => .no)
  | .listR, [x] => (match x with
    | .int n => (match leI 0 n && lenOk n.toNat with
      | true => .ok (.list (rngN n.toNat 0)) .fr h
      | false => .no)
    | _ => .no)
  | .sorted, [x] => (match seqOf x with
    | some xs => (match intsD xs with
      | some l => .ok (.list (dI (srtI l))) .fr h
      | none => (match srtT xs with
        | some l => .ok (.list l) .fr h
        | none => .no))
    | none => .no)
  | .sortedset, [x] => (match seqOf x with
    | some xs => (match intsD xs with
      | some l => (match Nat.blt l.length 64 with
        | true => .ok (.list (dI (srtI (dupI l)))) .fr h
        | false => .no)
      | none => .no)
    | none => .no)
  | .lenset, [x] => (match seqOf x with
    | some xs => (match intsD xs with
      | some l => (match Nat.blt l.length 1000 with
        | true => mkI (dupI l).length h
        | false => .no)
      | none => .no)
    | none => .no)
  | .sum, [x] => (match seqOf x with
    | some xs => (match intsD xs with
      | some l => mkI (sumF l 0) h
      | none => .no)
    | none => .no)
  | .all, [x] => (match x with
    | .list xs => (match boolsD xs with
      | some l => mkB (l.all id) h
      | none => .no)
    | _ => .no)
  | .any, [x] => (match x with
    | .list xs => (match boolsD xs with
      | some l => mkB (l.any id) h
      | none => .no)
    | _ => .no)
  | .abs, [.int i] => mkI (if ltI i 0 then -i else i) h
  | .max2, [.int i, .int j] => mkI (if ltI i j then j else i) h
  | .min2, [.int i, .int j] => mkI (if ltI j i then j else i) h
  | .dict1, [.list xs] => (match pairs xs with
    | some ps => (match mergeD ps [] with
      | some kvs => .ok (.dict kvs) .fr h
      | none => .no)
    | none => .no)
  | .minL, [.list xs] => (match intsD xs with
    | some (i :: l) => mkI (l.foldl (fun a b => if ltI b a then b else a) i) h
    | _ => .no)
  | .maxL, [.list xs] => (match intsD xs with
    | some (i :: l) => mkI (l.foldl (fun a b => if ltI a b then b else a) i) h
    | _ => .no)
  | .int1, [x] => (match x with
    | .int i => mkI i h
    | .bool b => mkI (if b then 1 else 0) h
    | _ => .no)
  | .isInt, [x] => (match noDict x with
    | true => mkB (isIntD x) h
    | false => .no)
  | .isBool, [x] => (match noDict x with
    | true => mkB (isBoolD x) h
    | false => .no)
  | .isStr, [x] => (match noDict x with
    | true => mkB (isStrD x) h
    | false => .no)
  | .isTuple, [x] => (match noDict x with
    | true => mkB (isTupD x) h
    | false => .no)
  | .isList, [x] => (match noDict x with
    | true => mkB (isLstD x) h
    | false => .no)
  | .isSeq, [x] => (match noDict x with
    | true => mkB (isLstD x || isTupD x) h
    | false => .no)
  | .isSeq2, [x] => (match noDict x with
    | true => mkB (isTupD x || isLstD x) h
    | false => .no)
  | .isBoolStr, [x] => (match noDict x with
    | true => mkB (isBoolD x || isStrD x) h
    | false => .no)
  | _, _ => .no
def metV (m : Met) (o : D) (as : List D) (h : Hist) : RE := match m, o, as with
  | .get2, .dict kvs, [k, x] => (match keyOk k kvs with
    | true => (match getKey k kvs with
      | some v => .ok v .pl h
      | none => .ok x .pl h)
    | false => .no)
  | _, _, _ => .no
/-- what is walked, item by item -/
def enumD : Int → List D → List D
  | _, [] => []
  | i, x :: r => iF i fun i => .tuple [.int i, x] :: enumD (i + 1) r
def zipD : List D → List D → List D
  | x :: xs, y :: ys => .tuple [x, y] :: zipD xs ys
  | _, _ => []
def walkV (k : Kd) (as : List D) (h : Hist) : RI := match k, as with
  | .seq, [x] => (match seqOf x with
    | some xs => .ok xs h
    | none => .no)
  | .rng1, [.int n] => (match wide n with
    | true => .ok (rngN n.toNat 0) h
    | false => .no)
  | .rng2, [.int a, .int b] => (match wide a && wide b with
    | true => .ok (rngN (b - a).toNat a) h
    | false => .no)
  | .rng3, [.int a, .int b, .int c] => (match wide a && wide b && eqI c (-1) with
    | true => .ok (rngC (a - b).toNat a (-1)) h
    | false => .no)
  | .enum, [x] => (match seqOf x with
    | some xs => .ok (enumD 0 xs) h
    | none => .no)
  | .zip, [x, y] => (match x, y with
    | .list xs, .list ys => .ok (zipD xs ys) h
    | .tuple xs, .tuple ys => .ok (zipD xs ys) h
    | _, _ => .no)
  | .items, [.dict kvs] => .ok (kvs.map fun p => .tuple [p.1, p.2]) h
  | _, _ => .no

/-! ### assigning -/
def asgT : Tg → D → Sl → Option Sl
  | .nm i, x, σ => some (setS σ i (some (.d x)))
  | .nil, x, σ => (match x with
    | .tuple [] => some σ
    | _ => none)
  | .cons a b, x, σ => (match x with
    | .tuple (y :: r) => (match asgT a y σ with
      | some σ' => asgT b (.tuple r) σ'
      | none => none)
    | .list (y :: r) => (match asgT a y σ with
      | some σ' => asgT b (.tuple r) σ'
      | none => none)
    | _ => none)
def parS : List (Nat × Bool) → List Arg → Sl → Option Sl
  | [], [], σ => some σ
  | (i, o) :: is, .d x f :: xs, σ => (match o, f with
    | true, .fr => (match parS is xs σ with
      | some σ' => some (setS σ' i (some (.own x)))
      | none => none)
    | false, .pl => (match parS is xs σ with
      | some σ' => some (setS σ' i (some (.d x)))
      | none => none)
    | false, .fr => (match parS is xs σ with
      | some σ' => some (setS σ' i (some (.d x)))
      | none => none)
    | _, _ => none)
  | _, _, _ => none

/-- all items strong data -/
def strongs : List Arg → Option (List D)
  | [] => some []
  | .d x f :: r => (match f with
    | .wk => none
    | .ct => none
    | .pl => (match strongs r with
      | some l => some (x :: l)
      | none => none)
    | .fr => (match strongs r with
      | some l => some (x :: l)
      | none => none))
  | .box :: _ => none
/-- what a loop may walk: no list of one's own -/
def steadys : List Og.Arg → Option (List D)
  | [] => some []
  | .d x f :: r => (match f with
    | .wk => none
    | _ => (match steadys r with
      | some l => some (x :: l)
      | none => none))
  | .box :: _ => none
/-- data, read at once, no constant of the module -/
def nearly : List Og.Arg → Option (List D)
  | [] => some []
  | .d x f :: r => (match f with
    | .ct => none
    | _ => (match nearly r with
      | some l => some (x :: l)
      | none => none))
  | .box :: _ => none
/-- all items data, read at once -/
def weaks : List Arg → Option (List D)
  | [] => some []
  | .d x _ :: r => (match weaks r with
    | some l => some (x :: l)
    | none => none)
  | .box :: _ => none
/-- arguments of a def: strong data or the box -/
def passes : List Arg → Bool
  | [] => true
  | .d _ .wk :: _ => false
  | .d _ .ct :: _ => false
  | _ :: r => passes r
def permA (as : List Arg) : List Nat → Option (List Arg)
  | [] => some []
  | i :: is => match as[i]?, permA as is with
    | some a, some l => some (a :: l)
    | _, _ => none
def oi : List Arg → Option (Option Int)
  | [] => some none
  | [.d (.int i) _] => some (some i)
  | _ => none

/-! ### the interpreter -/
/-- a dict of the module is asked by texts alone -/
def ctOk (f : Fl) (x y : D) : Bool := match f with
  | .ct => (match y with
    | .dict _ => isStrD x
    | _ => true)
  | _ => true
/-- constants of the module: numbers and texts are plain -/
def flG : D → Fl
  | .tuple _ => .ct
  | .list _ => .ct
  | .dict _ => .ct
  | _ => .pl
def boxAt : E → Sl → Bool
  | .var i, σ => (match getS σ i with
    | some .box => true
    | _ => false)
  | _, _ => false
/-- no constant of the module -/
def nc : RE → Option (D × Hist)
  | .ok _ .ct _ => none
  | .ok x .wk h => some (x, h)
  | .ok x .pl h => some (x, h)
  | .ok x .fr h => some (x, h)
  | .no => none
def strong : RE → Option (D × Hist)
  | .ok _ .wk _ => none
  | .ok _ .ct _ => none
  | .ok x .pl h => some (x, h)
  | .ok x .fr h => some (x, h)
  | .no => none
def fin (m : Bool) (r : RE) : RE := match m with
  | false => r
  | true => (match r with
    | .ok x _ h => (match truD x with
      | some b => mkB b h
      | none => .no)
    | .no => .no)
def compL (tg : Tg) (t e : Sl → Hist → RE) (σ : Sl) : List D → Hist → RI
  | [], h => .ok [] h
  | y :: ys, h => (match asgT tg y σ with
    | some σ' => (match t σ' h with
      | .ok (.bool true) _ h => (match e σ' h with
        | .ok _ .wk _ => .no
        | .ok _ .ct _ => .no
        | .ok x _ h => (match compL tg t e σ ys h with
          | .ok xs h => .ok (x :: xs) h
          | .no => .no)
        | .no => .no)
      | .ok (.bool false) _ h => compL tg t e σ ys h
      | _ => .no)
    | none => .no)
def dcompL (tg : Tg) (ek ev : Sl → Hist → RE) (σ : Sl) : List D → List (D × D) → Hist → RE
  | [], acc, h => .ok (.dict acc) .fr h
  | y :: ys, acc, h => (match asgT tg y σ with
    | some σ' => (match ek σ' h with
      | .ok k .pl h => (match ev σ' h with
        | .ok _ .wk _ => .no
        | .ok _ .ct _ => .no
        | .ok v _ h => (match keyA k && (keyOk k acc && Nat.blt acc.length 1000000) with
          | true => dcompL tg ek ev σ ys (putKey k v acc) h
          | false => .no)
        | .no => .no)
      | _ => .no)
    | none => .no)
section
variable (o : Hist → Int → Int) (G : List D) (φ : Nat → List Arg → Hist → RE)
mutual
def ev : E → Bool → Sl → Hist → RE
  | .nil, _, _, _ => .no
  | .cons _ _, _, _, _ => .no
  | .bad, _, _, _ => .no
  | .var i, m, σ, h => fin m (match getS σ i with
    | some (.d x) => .ok x .pl h
    | some (.own x) => .ok x .wk h
    | _ => .no)
  | .int i, m, _, h => fin m (.ok (.int i) .pl h)
  | .str s, m, _, h => fin m (.ok (.str s) .pl h)
  | .bl b, m, _, h => fin m (.ok (.bool b) .pl h)
  | .non, m, _, h => fin m (.ok .none .pl h)
  | .glo k, m, _, h => fin m (match nth G k with
    | some x => .ok x (flG x) h
    | none => .no)
  | .tup es, m, σ, h => fin m (match evs es σ h with
    | .ok xs h => (match strongs xs with
      | some l => .ok (.tuple l) .pl h
      | none => .no)
    | .no => .no)
  | .lst es, m, σ, h => fin m (match evs es σ h with
    | .ok xs h => (match strongs xs with
      | some l => .ok (.list l) .fr h
      | none => .no)
    | .no => .no)
  | .dic es _, m, σ, h => fin m (match evd es σ h with
    | .ok ps h => (match Nat.ble ps.length 15 with
      | true => (match mergeD ps [] with
        | some kvs => .ok (.dict kvs) .fr h
        | none => .no)
      | false => .no)
    | .no => .no)
  | .bin op a b, m, σ, h => fin m (match nc (ev a false σ h) with
    | some (x, h) => (match nc (ev b false σ h) with
      | some (y, h) => binV op x y h
      | none => .no)
    | none => .no)
  | .neg a, m, σ, h => fin m (match ev a false σ h with
    | .ok (.int i) _ h => mkI (-i) h
    | _ => .no)
  | .not a, m, σ, h => (match ev a m σ h with
    | .ok x _ h => (match truD x with
      | some b => mkB (!b) h
      | none => .no)
    | .no => .no)
  | .and a b, m, σ, h => (match ev a m σ h with
    | .ok (.bool true) _ h => ev b m σ h
    | .ok (.bool false) _ h => .ok (.bool false) .pl h
    | _ => .no)
  | .or a b, m, σ, h => (match ev a m σ h with
    | .ok (.bool true) _ h => .ok (.bool true) .pl h
    | .ok (.bool false) _ h => ev b m σ h
    | _ => .no)
  | .ite c a b, m, σ, h => (match ev c true σ h with
    | .ok (.bool true) _ h => ev a m σ h
    | .ok (.bool false) _ h => ev b m σ h
    | _ => .no)
  | .cmp op a b, _, σ, h => (match nc (ev a false σ h) with
    | some (x, h) => (match ev b false σ h with
      | .ok y f h => (match ctOk f x y with
        | true => cmpV op x y h
        | false => .no)
      | .no => .no)
    | none => .no)
  | .chn o1 o2 a b c, _, σ, h => (match nc (ev a false σ h) with
    | some (x, h) => (match nc (ev b false σ h) with
      | some (y, h) => (match cmpV o1 x y h with
        | .ok (.bool true) _ h => (match nc (ev c false σ h) with
          | some (z, h) => cmpV o2 y z h
          | none => .no)
        | .ok (.bool false) _ h => .ok (.bool false) .pl h
        | _ => .no)
      | none => .no)
    | none => .no)
  | .call f es, m, σ, h => fin m (match evs es σ h with
    | .ok xs h => (match passes xs with
      | true => φ f xs h
      | false => .no)
    | .no => .no)
  | .callk f ps es, m, σ, h => fin m (match evs es σ h with
    | .ok xs h => (match passes xs with
      | true => (match permA xs ps with
        | some ys => φ f ys h
        | none => .no)
      | false => .no)
    | .no => .no)
  | .take b n, m, σ, h => fin m (match boxAt b σ with
    | true => (match ev n false σ h with
      | .ok (.int n) _ h => (match ltI 0 n && small n && Nat.blt h.length 1000000 with
        | true => mkI (o h n) (n :: h)
        | false => .no)
      | _ => .no)
    | false => .no)
  | .blt b es, m, σ, h => fin m (match evs es σ h with
    | .ok xs h => (match nearly xs with
      | some l => bltV b l h
      | none => .no)
    | .no => .no)
  | .met t a es, m, σ, h => fin m (match nc (ev a false σ h) with
    | some (x, h) => (match evs es σ h with
      | .ok xs h => (match strongs xs with
        | some l => metV t x l h
        | none => .no)
      | .no => .no)
    | none => .no)
  | .sub a i, m, σ, h => fin m (match ev a false σ h with
    | .ok x f h => (match nc (ev i false σ h) with
      | some (y, h) => (match ctOk f y x with
        | true => subV x y h
        | false => .no)
      | none => .no)
    | .no => .no)
  | .slc a lo hi, m, σ, h => fin m (match nc (ev a false σ h) with
    | some (x, h) => (match evs lo σ h with
      | .ok l h => (match oi l with
        | some l => (match evs hi σ h with
          | .ok u h => (match oi u with
            | some u => cutV x l u h
            | none => .no)
          | .no => .no)
        | none => .no)
      | .no => .no)
    | none => .no)
  | .comp elt own tg k its ifs, m, σ, h => fin m (match evs its σ h with
    | .ok xs h => (match weaks xs with
      | some l => (match walkV k l h with
        | .ok ys h => (match compL tg (tsts ifs) (ev elt false) (wipeS σ own) ys h with
          | .ok zs h => (match lenOk zs.length with
            | true => .ok (.list zs) .fr h
            | false => .no)
          | .no => .no)
        | .no => .no)
      | none => .no)
    | .no => .no)
  | .dcomp key val own tg k its, m, σ, h => fin m (match evs its σ h with
    | .ok xs h => (match weaks xs with
      | some l => (match walkV k l h with
        | .ok ys h => dcompL tg (ev key false) (ev val false) (wipeS σ own) ys [] h
        | .no => .no)
      | none => .no)
    | .no => .no)
def evs : E → Sl → Hist → RA
  | .nil, _, h => .ok [] h
  | .cons a b, σ, h => (match boxAt a σ with
    | true => (match evs b σ h with
      | .ok xs h => .ok (.box :: xs) h
      | .no => .no)
    | false => (match ev a false σ h with
      | .ok x f h => (match evs b σ h with
        | .ok xs h => .ok (.d x f :: xs) h
        | .no => .no)
      | .no => .no))
  | _, _, _ => .no
def evd : E → Sl → Hist → RD
  | .nil, _, h => .ok [] h
  | .cons k (.cons v r), σ, h => (match strong (ev k false σ h) with
    | some (dk, h) => (match strong (ev v false σ h) with
      | some (dv, h) => (match evd r σ h with
        | .ok ps h => .ok ((dk, dv) :: ps) h
        | .no => .no)
      | none => .no)
    | none => .no)
  | _, _, _ => .no
def tsts : E → Sl → Hist → RE
  | .nil, _, h => .ok (.bool true) .pl h
  | .cons a b, σ, h => (match ev a true σ h with
    | .ok (.bool true) _ h => tsts b σ h
    | .ok (.bool false) _ h => .ok (.bool false) .pl h
    | _ => .no)
  | _, _, _ => .no
end

/-! ### statements -/
def forL (tg : Tg) (b : Sl → Hist → Out) : List D → Sl → Hist → Out
  | [], σ, h => .nx σ h
  | y :: ys, σ, h => (match asgT tg y σ with
    | some σ' => (match b σ' h with
      | .nx σ h => forL tg b ys σ h
      | .ct σ h => forL tg b ys σ h
      | .bk σ h => .nx σ h
      | r => r)
    | none => .no)
def whileL (c : Sl → Hist → RE) (b : Sl → Hist → Out) : Nat → Sl → Hist → Out
  | 0, _, _ => .no
  | n + 1, σ, h => (match c σ h with
    | .ok (.bool true) _ h => (match b σ h with
      | .nx σ h => whileL c b n σ h
      | .ct σ h => whileL c b n σ h
      | .bk σ h => .nx σ h
      | r => r)
    | .ok (.bool false) _ h => .nx σ h
    | _ => .no)
def setN (xs : List D) (k : Nat) (v : D) : List D := match xs, k with
  | [], _ => []
  | _ :: r, 0 => v :: r
  | x :: r, k + 1 => x :: setN r k v
def delN (xs : List D) (k : Nat) : List D := match xs, k with
  | [], _ => []
  | _ :: r, 0 => r
  | x :: r, k + 1 => x :: delN r k
def setV (x ix v : D) : Option D := match x, ix with
  | .list xs, .int i => (match ixI xs.length i with
    | some k => some (.list (setN xs k v))
    | none => none)
  | .dict kvs, k => (match keyOk k kvs && Nat.blt kvs.length 1000000 with
    | true => some (.dict (putKey k v kvs))
    | false => none)
  | _, _ => none
def lastD : List D → Option (List D × D)
  | [] => none
  | [x] => some ([], x)
  | x :: r => (match lastD r with
    | some (l, y) => some (x :: l, y)
    | none => none)
def exec (W : Nat) : S → Sl → Hist → Out
  | .skip, σ, h => .nx σ h
  | .seq a b, σ, h => (match exec W a σ h with
    | .nx σ h => exec W b σ h
    | r => r)
  | .asg tg e, σ, h => (match strong (ev o G φ e false σ h) with
    | some (x, h) => (match asgT tg x σ with
      | some σ => .nx σ h
      | none => .no)
    | none => .no)
  | .own i e, σ, h => (match ev o G φ e false σ h with
    | .ok x .fr h => .nx (setS σ i (some (.own x))) h
    | _ => .no)
  | .par is es, σ, h => (match evs o G φ es σ h with
    | .ok xs h => (match parS is xs σ with
      | some σ => .nx σ h
      | none => .no)
    | .no => .no)
  | .aug i op e, σ, h => (match getS σ i with
    | some (.d x) => (match ev o G φ e false σ h with
      | .ok y _ h => (match x, y with
        | .int _, .int _ => (match binV op x y h with
          | .ok z _ h => .nx (setS σ i (some (.d z))) h
          | .no => .no)
        | _, _ => .no)
      | .no => .no)
    | _ => .no)
  | .setsub i ix e, σ, h => (match strong (ev o G φ e false σ h) with
    | some (v, h) => (match ev o G φ ix false σ h with
      | .ok k .pl h => (match getS σ i with
        | some (.own x) => (match setV x k v with
          | some x => .nx (setS σ i (some (.own x))) h
          | none => .no)
        | _ => .no)
      | _ => .no)
    | none => .no)
  | .augsub i op ix e, σ, h => (match getS σ i with
    | some (.own x) => (match ev o G φ ix false σ h with
      | .ok k .pl h => (match subV x k h with
        | .ok (.int a) _ h => (match ev o G φ e false σ h with
          | .ok (.int b) _ h => (match binV op (.int a) (.int b) h with
            | .ok z _ h => (match setV x k z with
              | some x => .nx (setS σ i (some (.own x))) h
              | none => .no)
            | .no => .no)
          | _ => .no)
        | _ => .no)
      | _ => .no)
    | _ => .no)
  | .app i e, σ, h => (match getS σ i with
    | some (.own (.list xs)) => (match strong (ev o G φ e false σ h) with
      | some (v, h) => (match Nat.blt xs.length 16777216 with
        | true => .nx (setS σ i (some (.own (.list (xs ++ [v]))))) h
        | false => .no)
      | none => .no)
    | _ => .no)
  | .ext i e, σ, h => (match getS σ i with
    | some (.own (.list xs)) => (match ev o G φ e false σ h with
      | .ok (.list ys) _ h => (match lenOk (xs.length + ys.length) with
        | true => .nx (setS σ i (some (.own (.list (xs ++ ys))))) h
        | false => .no)
      | _ => .no)
    | _ => .no)
  | .pop0 i, σ, h => (match getS σ i with
    | some (.own (.list xs)) => (match lastD xs with
      | some (l, _) => .nx (setS σ i (some (.own (.list l)))) h
      | none => .no)
    | _ => .no)
  | .popTo j i, σ, h => (match getS σ i with
    | some (.own (.list xs)) => (match lastD xs with
      | some (l, y) => .nx (setS (setS σ i (some (.own (.list l)))) j (some (.d y))) h
      | none => .no)
    | _ => .no)
  | .bad, _, _ => .no
  | .rem _ _, _, _ => .no
  | .pop1 _ _, _, _ => .no
  | .ins _ _ _, _, _ => .no
  | .ifs c a b, σ, h => (match ev o G φ c true σ h with
    | .ok (.bool true) _ h => exec W a σ h
    | .ok (.bool false) _ h => exec W b σ h
    | _ => .no)
  | .for_ tg k its body, σ, h => (match evs o G φ its σ h with
    | .ok xs h => (match steadys xs with
      | some l => (match walkV k l h with
        | .ok ys h => forL tg (exec W body) ys σ h
        | .no => .no)
      | none => .no)
    | .no => .no)
  | .while_ c body, σ, h => whileL (ev o G φ c true) (exec W body) W σ h
  | .ret e, σ, h => (match ev o G φ e false σ h with
    | .ok _ .wk _ => .no
    | .ok _ .ct _ => .no
    | .ok x f h => .ret x f h
    | .no => .no)
  | .retOwn i, σ, h => (match getS σ i with
    | some (.own x) => .ret x .fr h
    | _ => .no)
  | .brk, σ, h => .bk σ h
  | .cont, σ, h => .ct σ h
  | .frz i, σ, h => (match getS σ i with
    | some (.own x) => .nx (setS σ i (some (.d x))) h
    | _ => .no)
  | .exp e, σ, h => (match ev o G φ e false σ h with
    | .ok _ _ h => .nx σ h
    | .no => .no)
end
/-- a def: how many parameters, how many slots, its body -/
structure Def where
  np : Nat
  ns : Nat
  body : S
def svOf : Arg → SV
  | .d x _ => .d x
  | .box => .box
def padS : Nat → List Arg → Sl
  | 0, _ => []
  | n + 1, [] => none :: padS n []
  | n + 1, a :: r => some (svOf a) :: padS n r
def callN (o : Hist → Int → Int) (G : List D) (F : List Def) (W : Nat) : Nat → Nat → List Arg → Hist → RE
  | 0, _, _, _ => .no
  | n + 1, f, as, h => (match F[f]? with
    | some d => (match Nat.beq as.length d.np with
      | true => (match exec o G (callN o G F W n) W d.body (padS d.ns as) h with
        | .ret x f h => .ok x f h
        | .nx _ h => .ok .none .pl h
        | _ => .no)
      | false => .no)
    | none => .no)
end Og

end
section
set_option Elab.async false
set_option linter.all false
set_option maxRecDepth 100000
/-! How trees lie in the abstract heap. -/
namespace Og
open PySem L2

def keyD : Key → D
  | .inl i => .int i
  | .inr x => .str x

/-- what is fixed: the written part, the world, where the box stands, how the draws go -/
structure Cf where
  K : PySem.W.Frag
  w : World
  bx : Option Addr
  bs : Hist → List V

/-- a dict at a: its keys, its values -/
def DcV (c : Cf) (H : Hp) (A : List Addr) (a : Addr) (ks : List D) (vs : List V) : Prop :=
  (∃ kvs : List (Key × V), (L2.Rd H a (.dK kvs) ∧ (kvs = [] → H a = some (.dK []))) ∧ a ∉ A ∧ ks = kvs.map (fun p => keyD p.1) ∧ vs = kvs.map (fun p => p.2)) ∨
  (∃ kvs : List (List Key × V), (L2.Rd H a (.dT kvs) ∧ (kvs = [] → H a = some (.dT []))) ∧ a ∉ A ∧ ks = kvs.map (fun p => .tuple (p.1.map keyD)) ∧ vs = kvs.map (fun p => p.2))
/-- a tuple that is read: tracked and not set apart -/
def TqV (c : Cf) (H : Hp) (A : List Addr) (a : Addr) (xs : List V) : Prop := H a = some (.tup xs) ∧ a ∉ A
theorem TqV.sq {c : Cf} {H : Hp} {A : List Addr} {a : Addr} {xs : List V} (h : TqV c H A a xs) : SqT c.K H a xs := SqT.of h.1

mutual
/-- v reads as a tree; lists and dicts of it stand at none of A -/
inductive Rv (c : Cf) (H : Hp) (A : List Addr) : V → D → Prop
  | non : Rv c H A .non .none
  | bl (b : Bool) : Rv c H A (.bl b) (.bool b)
  | int (i : Int) : Rv c H A (.int i) (.int i)
  | str (x : Str) : Rv c H A (.str x) (.str x)
  | lst {a : Addr} {xs : List V} {ds : List D} : H a = some (.lst xs) → a ∉ A → RvL c H A xs ds → Rv c H A (.ref a) (.list ds)
  | tup {a : Addr} {xs : List V} {ds : List D} : TqV c H A a xs → RvL c H A xs ds → Rv c H A (.ref a) (.tuple ds)
  | dic {a : Addr} {vs : List V} {ds : List (D × D)} : DcV c H A a (ds.map (fun p => p.1)) vs → RvL c H A vs (ds.map (fun p => p.2)) → Rv c H A (.ref a) (.dict ds)
inductive RvL (c : Cf) (H : Hp) (A : List Addr) : List V → List D → Prop
  | nil : RvL c H A [] []
  | cons {v : V} {vs : List V} {d : D} {ds : List D} : Rv c H A v d → RvL c H A vs ds → RvL c H A (v :: vs) (d :: ds)
end

/-- all but the box can be read as before -/
def Kp (bx : Option Addr) (H H' : Hp) : Prop := ∀ a u, some a ≠ bx → H a = some u → H' a = some u
theorem Kp.refl {bx : Option Addr} {H : Hp} : Kp bx H H := fun _ _ _ h => h
theorem Kp.trans {bx : Option Addr} {H H1 H2 : Hp} (a : Kp bx H H1) (b : Kp bx H1 H2) : Kp bx H H2 := fun x u n h => b x u n (a x u n h)
theorem Kp.new {bx : Option Addr} {H : Hp} {p : Addr} {o : HO} (h : H p = none) : Kp bx H (upd H p o) := fun a u _ e => by
  rw [upd_ne (ne_of_none e h)]; exact e
theorem Kp.none {bx : Option Addr} {H H' : Hp} (k : Kp bx H H') {a : Addr} (n : some a ≠ bx) (h : H' a = none) : H a = none := by
  cases e : H a with
  | none => rfl
  | some u => rw [k a u n e] at h; cases h
theorem Kp.rd {bx : Option Addr} {H H' : Hp} (k : Kp bx H H') {a : Addr} {u : HO} (n : some a ≠ bx) (h : L2.Rd H a u) : L2.Rd H' a u := by
  rcases h with h | ⟨o, h⟩
  · exact .inl (k _ _ n h)
  · exact .inr ⟨o, k _ _ n h⟩

section
variable {c : Cf} {H H' : Hp} {A A' : List Addr}
/-- the box is set apart -/
def Bin (bx : Option Addr) (A : List Addr) : Prop := ∀ a, bx = some a → a ∈ A
theorem Bin.ne {bx : Option Addr} (h : Bin bx A) {a : Addr} (n : a ∉ A) : some a ≠ bx := fun e => n (h a e.symm)

theorem TqV.keep {a : Addr} {xs : List V} (b : Bin c.bx A) (k : Kp c.bx H H') (h : TqV c H A a xs) : TqV c H' A a xs := by
  exact ⟨k _ _ (b.ne h.2) h.1, h.2⟩
theorem DcV.keep {a : Addr} {ks : List D} {vs : List V} (b : Bin c.bx A) (k : Kp c.bx H H') (h : DcV c H A a ks vs) : DcV c H' A a ks vs := by
  rcases h with ⟨kvs, h, n, r⟩ | ⟨kvs, h, n, r⟩
  · exact .inl ⟨kvs, ⟨k.rd (b.ne n) h.1, fun z => k _ _ (b.ne n) (h.2 z)⟩, n, r⟩
  · exact .inr ⟨kvs, ⟨k.rd (b.ne n) h.1, fun z => k _ _ (b.ne n) (h.2 z)⟩, n, r⟩
mutual
theorem Rv.keep (b : Bin c.bx A) (k : Kp c.bx H H') : ∀ {v : V} {d : D}, Rv c H A v d → Rv c H' A v d
  | _, _, .non => .non
  | _, _, .bl b => .bl b
  | _, _, .int i => .int i
  | _, _, .str x => .str x
  | _, _, .lst h n r => .lst (k _ _ (b.ne n) h) n (RvL.keep b k r)
  | _, _, .tup h r => .tup (h.keep b k) (RvL.keep b k r)
  | _, _, .dic h r => .dic (h.keep b k) (RvL.keep b k r)
theorem RvL.keep (b : Bin c.bx A) (k : Kp c.bx H H') : ∀ {v : List V} {d : List D}, RvL c H A v d → RvL c H' A v d
  | _, _, .nil => .nil
  | _, _, .cons r s => .cons (Rv.keep b k r) (RvL.keep b k s)
end
theorem TqV.sub {a : Addr} {xs : List V} (s : ∀ a, a ∈ A' → a ∈ A) (h : TqV c H A a xs) : TqV c H A' a xs := by
  exact ⟨h.1, fun z => h.2 (s _ z)⟩
theorem DcV.sub {a : Addr} {ks : List D} {vs : List V} (s : ∀ a, a ∈ A' → a ∈ A) (h : DcV c H A a ks vs) : DcV c H A' a ks vs := by
  rcases h with ⟨kvs, h, n, r⟩ | ⟨kvs, h, n, r⟩
  · exact .inl ⟨kvs, h, fun z => n (s _ z), r⟩
  · exact .inr ⟨kvs, h, fun z => n (s _ z), r⟩
mutual
theorem Rv.sub (s : ∀ a, a ∈ A' → a ∈ A) : ∀ {v : V} {d : D}, Rv c H A v d → Rv c H A' v d
  | _, _, .non => .non
  | _, _, .bl b => .bl b
  | _, _, .int i => .int i
  | _, _, .str x => .str x
  | _, _, .lst h n r => .lst h (fun z => n (s _ z)) (RvL.sub s r)
  | _, _, .tup h r => .tup (h.sub s) (RvL.sub s r)
  | _, _, .dic h r => .dic (h.sub s) (RvL.sub s r)
theorem RvL.sub (s : ∀ a, a ∈ A' → a ∈ A) : ∀ {v : List V} {d : List D}, RvL c H A v d → RvL c H A' v d
  | _, _, .nil => .nil
  | _, _, .cons r t => .cons (Rv.sub s r) (RvL.sub s t)
end
/-- a new place may be set apart -/
theorem rd_ne {a p : Addr} {u : HO} (h : L2.Rd H a u) (n : H p = none) : a ≠ p := by
  rcases h with h | ⟨o, h⟩
  · exact ne_of_none h n
  · exact ne_of_none h n
theorem TqV.more {a p : Addr} {xs : List V} (np : H p = none) (h : TqV c H A a xs) : TqV c H (p :: A) a xs := by
  exact ⟨h.1, by simp only [List.mem_cons, not_or]; exact ⟨ne_of_none h.1 np, h.2⟩⟩
theorem DcV.more {a p : Addr} {ks : List D} {vs : List V} (np : H p = none) (h : DcV c H A a ks vs) : DcV c H (p :: A) a ks vs := by
  rcases h with ⟨kvs, h, n, r⟩ | ⟨kvs, h, n, r⟩
  · exact .inl ⟨kvs, h, by simp only [List.mem_cons, not_or]; exact ⟨rd_ne h.1 np, n⟩, r⟩
  · exact .inr ⟨kvs, h, by simp only [List.mem_cons, not_or]; exact ⟨rd_ne h.1 np, n⟩, r⟩
mutual
theorem Rv.more {p : Addr} (np : H p = none) : ∀ {v : V} {d : D}, Rv c H A v d → Rv c H (p :: A) v d
  | _, _, .non => .non
  | _, _, .bl b => .bl b
  | _, _, .int i => .int i
  | _, _, .str x => .str x
  | _, _, .lst h n r => .lst h (by simp only [List.mem_cons, not_or]; exact ⟨ne_of_none h np, n⟩) (RvL.more np r)
  | _, _, .tup h r => .tup (h.more np) (RvL.more np r)
  | _, _, .dic h r => .dic (h.more np) (RvL.more np r)
theorem RvL.more {p : Addr} (np : H p = none) : ∀ {v : List V} {d : List D}, RvL c H A v d → RvL c H (p :: A) v d
  | _, _, .nil => .nil
  | _, _, .cons r t => .cons (Rv.more np r) (RvL.more np t)
end

theorem RvL.length : ∀ {vs : List V} {ds : List D}, RvL c H A vs ds → vs.length = ds.length
  | _, _, .nil => rfl
  | _, _, .cons _ r => by simp [RvL.length r]
theorem RvL.append : ∀ {vs us : List V} {ds es : List D}, RvL c H A vs ds → RvL c H A us es → RvL c H A (vs ++ us) (ds ++ es)
  | _, _, _, _, .nil, s => s
  | _, _, _, _, .cons r t, s => .cons r (RvL.append t s)
theorem RvL.get : ∀ {vs : List V} {ds : List D} {i : Nat} {d : D}, RvL c H A vs ds → nth ds i = some d → ∃ v, vs[i]? = some v ∧ Rv c H A v d
  | _, _, _, _, .nil, e => by simp [nth] at e
  | _, _, 0, _, .cons r _, e => by simp [nth] at e; subst e; exact ⟨_, rfl, r⟩
  | _, _, i + 1, d, .cons _ t, e => by
    obtain ⟨v, h1, h2⟩ := RvL.get (i := i) (d := d) t (by simpa [nth] using e)
    exact ⟨v, by simpa using h1, h2⟩
theorem RvL.take : ∀ {vs : List V} {ds : List D} (n : Nat), RvL c H A vs ds → RvL c H A (vs.take n) (ds.take n)
  | _, _, 0, _ => .nil
  | _, _, _ + 1, .nil => .nil
  | _, _, n + 1, .cons r t => .cons r (RvL.take n t)
theorem RvL.drop : ∀ {vs : List V} {ds : List D} (n : Nat), RvL c H A vs ds → RvL c H A (vs.drop n) (ds.drop n)
  | _, _, 0, r => r
  | _, _, _ + 1, .nil => .nil
  | _, _, n + 1, .cons _ t => RvL.drop n t
theorem RvL.intsD : ∀ {vs : List V} {ds : List D} {l : List Int}, RvL c H A vs ds → intsD ds = some l → vs = l.map V.int ∧ ds = l.map PyData.int
  | _, _, l, .nil, e => by simp [Og.intsD] at e; subst e; exact ⟨rfl, rfl⟩
  | _, _, l, .cons (d := d) r t, e => by
    cases r with
    | int i =>
      simp only [Og.intsD] at e
      split at e
      · rename_i l' e'
        cases e
        obtain ⟨h1, h2⟩ := RvL.intsD t e'
        exact ⟨by simp [h1], by simp [h2]⟩
      · cases e
    | _ => simp [Og.intsD] at e
theorem RvL.boolsD : ∀ {vs : List V} {ds : List D} {l : List Bool}, RvL c H A vs ds → boolsD ds = some l → vs = l.map V.bl ∧ ds = l.map PyData.bool
  | _, _, l, .nil, e => by simp [Og.boolsD] at e; subst e; exact ⟨rfl, rfl⟩
  | _, _, l, .cons (d := d) r t, e => by
    cases r with
    | bl i =>
      simp only [Og.boolsD] at e
      split at e
      · rename_i l' e'
        cases e
        obtain ⟨h1, h2⟩ := RvL.boolsD t e'
        exact ⟨by simp [h1], by simp [h2]⟩
      · cases e
    | _ => simp [Og.boolsD] at e

/-! ### reading to HandS's data -/
mutual
theorem Rv.dp : ∀ {v : V} {d : D}, Rv c H A v d → d.canLay0 = true → Dp c.K H v d
  | _, _, .non, _ => .non
  | _, _, .bl b, _ => .bl b
  | _, _, .int i, _ => .int i
  | _, _, .str x, _ => .str x
  | _, _, .lst h _ r, e => .lst (SqL.of h) (RvL.dp r (by simpa [PyData.canLay0] using e))
  | _, _, .tup h r, e => .tup h.sq (RvL.dp r (by simpa [PyData.canLay0] using e))
  | _, _, .dic _ _, e => by simp [PyData.canLay0] at e
theorem RvL.dp : ∀ {v : List V} {d : List D}, RvL c H A v d → PyData.canLayAll0 d = true → DpAll c.K H v d
  | _, _, .nil, _ => .nil
  | _, _, .cons r t, e => by
    simp only [PyData.canLayAll0, Bool.and_eq_true] at e
    exact .cons (Rv.dp r e.1) (RvL.dp t e.2)
end

/-- the top of a value that one's own variable holds: a list or dict at a, its parts strong -/
inductive Ow (c : Cf) (H : Hp) (A : List Addr) (a : Addr) : D → Prop
  | lst {xs : List V} {ds : List D} : H a = some (.lst xs) → RvL c H A xs ds → Ow c H A a (.list ds)
  | dK {kvs : List (Key × V)} {ds : List (D × D)} : H a = some (.dK kvs) → ds.map (fun p => p.1) = kvs.map (fun p => keyD p.1) → RvL c H A (kvs.map (fun p => p.2)) (ds.map (fun p => p.2)) → Ow c H A a (.dict ds)
  | dT {kvs : List (List Key × V)} {ds : List (D × D)} : H a = some (.dT kvs) → ds.map (fun p => p.1) = kvs.map (fun p => .tuple (p.1.map keyD)) → RvL c H A (kvs.map (fun p => p.2)) (ds.map (fun p => p.2)) → Ow c H A a (.dict ds)
theorem Ow.keep {a : Addr} {d : D} (b : Bin c.bx A) (n : some a ≠ c.bx) (k : Kp c.bx H H') (h : Ow c H A a d) : Ow c H' A a d := by
  cases h with
  | lst e r => exact .lst (k _ _ n e) (r.keep b k)
  | dK e q r => exact .dK (k _ _ n e) q (r.keep b k)
  | dT e q r => exact .dT (k _ _ n e) q (r.keep b k)
theorem Ow.sub {a : Addr} {d : D} (s : ∀ a, a ∈ A' → a ∈ A) (h : Ow c H A a d) : Ow c H A' a d := by
  cases h with
  | lst e r => exact .lst e (r.sub s)
  | dK e q r => exact .dK e q (r.sub s)
  | dT e q r => exact .dT e q (r.sub s)
theorem Ow.more {a p : Addr} {d : D} (np : H p = none) (h : Ow c H A a d) : Ow c H (p :: A) a d := by
  cases h with
  | lst e r => exact .lst e (r.more np)
  | dK e q r => exact .dK e q (r.more np)
  | dT e q r => exact .dT e q (r.more np)
theorem Ow.rv {a : Addr} {d : D} (n : a ∉ A) (h : Ow c H A a d) : Rv c H A (.ref a) d := by
  cases h with
  | lst e r => exact .lst e n r
  | dK e q r => exact .dic (.inl ⟨_, ⟨.inl e, fun z => by subst z; exact e⟩, n, q, rfl⟩) r
  | dT e q r => exact .dic (.inr ⟨_, ⟨.inl e, fun z => by subst z; exact e⟩, n, q, rfl⟩) r
theorem Ow.some {a : Addr} {d : D} (h : Ow c H A a d) : ∃ o, H a = some o := by
  cases h with
  | lst e r => exact ⟨_, e⟩
  | dK e q r => exact ⟨_, e⟩
  | dT e q r => exact ⟨_, e⟩

/-- numbers and texts -/
inductive Sc : V → D → Prop
  | int (i : Int) : Sc (.int i) (.int i)
  | str (x : Str) : Sc (.str x) (.str x)
theorem Sc.rv {v : V} {d : D} (h : Sc v d) : Rv c H A v d := by
  cases h with
  | int i => exact .int i
  | str x => exact .str x
theorem scs_rv : ∀ {vs : List V} {ds : List D}, Paired Sc vs ds → RvL c H A vs ds
  | _, _, .nil => .nil
  | _, _, .cons h t => .cons h.rv (scs_rv t)
/-- a constant of the module -/
inductive Gw (c : Cf) (a : Addr) : D → Prop
  | tup {xs : List V} {ds : List D} : (∃ (o : Obj) (its : Array Value) (n : Nat), c.K.lookup a = some o ∧ o.cls = .type "tuple" ∧ o.data = .seq its n ∧ its.size ≤ sizeLine ∧ Vals xs its.toList) → Paired Sc xs ds → Gw c a (.tuple ds)
  | dic {es : Array DictEntry} {n : Nat} {zs : List Str} {vs : List V} {ds : List (D × D)} : KDict c.K c.w a es n → ds.map (fun p => p.1) = zs.map PyData.str → Paired (fun z v => ∃ u, PySem.W.nsIn c.K a z = some (some u) ∧ RelV v u) zs vs →
      Paired Sc vs (ds.map (fun p => p.2)) → (∀ z, z ∉ zs → PySem.W.nsIn c.K a z = some none) → Gw c a (.dict ds)
theorem Gw.sq {a : Addr} {ds : List D} (h : Gw c a (.tuple ds)) : ∃ xs, SqT c.K H a xs ∧ RvL c H A xs ds := by
  cases h with
  | tup h p => exact ⟨_, .inr h, scs_rv p⟩
/-- v may be read as the tree now, no constant -/
def Wn (c : Cf) (H : Hp) (A : List Addr) (v : V) (d : D) : Prop := Rv c H A v d ∨ ∃ a, v = .ref a ∧ some a ≠ c.bx ∧ Ow c H A a d
theorem Wn.keep {v : V} {d : D} (b : Bin c.bx A) (k : Kp c.bx H H') (h : Wn c H A v d) : Wn c H' A v d := by
  rcases h with h | ⟨a, e, n, o⟩
  · exact .inl (h.keep b k)
  · exact .inr ⟨a, e, n, o.keep b n k⟩
/-- v may be read as the tree now -/
def Wr (c : Cf) (H : Hp) (A : List Addr) (v : V) (d : D) : Prop := Rv c H A v d ∨ (∃ a, v = .ref a ∧ some a ≠ c.bx ∧ Ow c H A a d) ∨ ∃ a, v = .ref a ∧ Gw c a d
theorem Wn.wr {v : V} {d : D} (h : Wn c H A v d) : Wr c H A v d := by
  rcases h with h | h
  · exact .inl h
  · exact .inr (.inl h)
theorem Wn.tup {v : V} {ds : List D} (h : Wn c H A v (.tuple ds)) : ∃ a xs, v = .ref a ∧ TqV c H A a xs ∧ RvL c H A xs ds := by
  rcases h with h | ⟨a, e, n, o⟩
  · cases h with
    | tup h r => exact ⟨_, _, rfl, h, r⟩
  · cases o
theorem Wr.keep {v : V} {d : D} (b : Bin c.bx A) (k : Kp c.bx H H') (h : Wr c H A v d) : Wr c H' A v d := by
  rcases h with h | ⟨a, e, n, o⟩ | h
  · exact .inl (h.keep b k)
  · exact .inr (.inl ⟨a, e, n, o.keep b n k⟩)
  · exact .inr (.inr h)
theorem Wr.lst {v : V} {ds : List D} (h : Wr c H A v (.list ds)) : ∃ a xs, v = .ref a ∧ H a = some (.lst xs) ∧ RvL c H A xs ds := by
  rcases h with h | ⟨a, e, n, o⟩ | ⟨a, e, g⟩
  · cases h with
    | lst e n r => exact ⟨_, _, rfl, e, r⟩
  · cases o with
    | lst e' r => exact ⟨_, _, e, e', r⟩
  · cases g
theorem Wr.tup {v : V} {ds : List D} (h : Wr c H A v (.tuple ds)) : ∃ a xs, v = .ref a ∧ SqT c.K H a xs ∧ RvL c H A xs ds := by
  rcases h with h | ⟨a, e, n, o⟩ | ⟨a, e, g⟩
  · cases h with
    | tup h r => exact ⟨_, _, rfl, h.sq, r⟩
  · cases o
  · obtain ⟨xs, h1, h2⟩ := g.sq (H := H) (A := A)
    exact ⟨a, xs, e, h1, h2⟩
theorem Wr.int {v : V} {i : Int} (h : Wr c H A v (.int i)) : v = .int i := by
  rcases h with h | ⟨a, e, n, o⟩ | ⟨a, e, g⟩
  · cases h; rfl
  · cases o
  · cases g
theorem Wr.str {v : V} {i : Str} (h : Wr c H A v (.str i)) : v = .str i := by
  rcases h with h | ⟨a, e, n, o⟩ | ⟨a, e, g⟩
  · cases h; rfl
  · cases o
  · cases g
theorem Wr.bl {v : V} {i : Bool} (h : Wr c H A v (.bool i)) : v = .bl i := by
  rcases h with h | ⟨a, e, n, o⟩ | ⟨a, e, g⟩
  · cases h; rfl
  · cases o
  · cases g
theorem Wr.non {v : V} (h : Wr c H A v .none) : v = .non := by
  rcases h with h | ⟨a, e, n, o⟩ | ⟨a, e, g⟩
  · cases h; rfl
  · cases o
  · cases g
theorem Wr.dref {v : V} {ds : List (D × D)} (h : Wr c H A v (.dict ds)) : ∃ a, v = .ref a := by
  rcases h with h | ⟨a, e, n, o⟩ | ⟨a, e, g⟩
  · cases h; exact ⟨_, rfl⟩
  · exact ⟨a, e⟩
  · exact ⟨a, e⟩
theorem Wr.dp {v : V} {d : D} (h : Wr c H A v d) (e : d.canLay0 = true) : Dp c.K H v d := by
  rcases h with h | ⟨a, q, n, o⟩ | ⟨a, q, g⟩
  · exact h.dp e
  · subst q
    cases o with
    | lst h r => exact .lst (SqL.of h) (RvL.dp r (by simpa [PyData.canLay0] using e))
    | _ => simp [PyData.canLay0] at e
  · subst q
    cases g with
    | tup h p => exact .tup (.inr h) (RvL.dp (scs_rv (H := H) (A := A) p) (by simpa [PyData.canLay0] using e))
    | dic => simp [PyData.canLay0] at e

/-- a value that came out of an expression begun at H -/
def Vl (c : Cf) (A : List Addr) (H H' : Hp) (v : V) (d : D) : Fl → Prop
  | .wk => ∃ a, v = .ref a ∧ some a ≠ c.bx ∧ a ∈ A ∧ Ow c H' A a d
  | .ct => ∃ a, v = .ref a ∧ Gw c a d
  | .pl => Rv c H' A v d
  | .fr => ∃ a, v = .ref a ∧ H a = none ∧ a ∉ A ∧ Ow c H' (a :: A) a d
theorem Vl.wr {v : V} {d : D} {f : Fl} (h : Vl c A H H' v d f) : Wr c H' A v d := by
  cases f with
  | wk => obtain ⟨a, e, n, _, o⟩ := h; exact .inr (.inl ⟨a, e, n, o⟩)
  | ct => exact .inr (.inr h)
  | pl => exact .inl h
  | fr =>
    obtain ⟨a, e, n, na, o⟩ := h
    subst e
    exact .inl ((o.sub (A' := A) fun b hb => List.mem_cons_of_mem _ hb).rv na)
theorem Vl.wn {v : V} {d : D} {f : Fl} (h : Vl c A H H' v d f) (hg : f ≠ .ct) : Wn c H' A v d := by
  cases f with
  | wk => obtain ⟨a, e, n, _, o⟩ := h; exact .inr ⟨a, e, n, o⟩
  | ct => exact absurd rfl hg
  | pl => exact .inl h
  | fr =>
    obtain ⟨a, e, n, na, o⟩ := h
    subst e
    exact .inl ((o.sub (A' := A) fun b hb => List.mem_cons_of_mem _ hb).rv na)
theorem Vl.rv {v : V} {d : D} {f : Fl} (h : Vl c A H H' v d f) (hf : f ≠ .wk) (hg : f ≠ .ct) : Rv c H' A v d := by
  cases f with
  | wk => exact absurd rfl hf
  | ct => exact absurd rfl hg
  | pl => exact h
  | fr =>
    obtain ⟨a, e, n, na, o⟩ := h
    subst e
    exact (o.sub (A' := A) fun b hb => List.mem_cons_of_mem _ hb).rv na
/-- begun earlier -/
theorem Vl.back {H0 : Hp} {v : V} {d : D} {f : Fl} (b : Bin c.bx A) (k : Kp c.bx H0 H) (h : Vl c A H H' v d f) : Vl c A H0 H' v d f := by
  cases f with
  | wk => exact h
  | ct => exact h
  | pl => exact h
  | fr =>
    obtain ⟨a, e, n, na, o⟩ := h
    exact ⟨a, e, k.none (b.ne na) n, na, o⟩
end

/-- the slots -/
def SvR (c : Cf) (H : Hp) (A : List Addr) (v : V) : SV → Prop
  | .d x => Rv c H A v x
  | .own x => ∃ a, v = .ref a ∧ some a ≠ c.bx ∧ a ∈ A ∧ Ow c H A a x
  | .box => ∃ a, v = .ref a ∧ c.bx = some a
structure SsR (c : Cf) (H : Hp) (A : List Addr) (σ : Sl) (σV : St) : Prop where
  len : σ.length = σV.length
  at_ : ∀ i s, getS σ i = some s → ∃ v, σV[i]? = some (some v) ∧ SvR c H A v s
  ap : ∀ i j x y a, getS σ i = some (.own x) → getS σ j = some (.own y) → σV[i]? = some (some (.ref a)) → σV[j]? = some (some (.ref a)) → i = j
/-- where a def's code stands: set-apart places are there, the box is as the draws say -/
structure Wd (c : Cf) (H : Hp) (A : List Addr) (h : Hist) : Prop where
  dom : ∀ a ∈ A, ∃ o, H a = some o
  bin : Bin c.bx A
  box : ∀ a, c.bx = some a → H a = some (.lst (c.bs h))

section
variable {c : Cf} {H H' : Hp} {A : List Addr} {σ : Sl} {σV : St} {h h' : Hist}
theorem SvR.keep {v : V} {s : SV} (b : Bin c.bx A) (k : Kp c.bx H H') (r : SvR c H A v s) : SvR c H' A v s := by
  cases s with
  | d x => exact Rv.keep b k r
  | own x => obtain ⟨a, e, n, m, o⟩ := r; exact ⟨a, e, n, m, o.keep b n k⟩
  | box => exact r
theorem SsR.keep (b : Bin c.bx A) (k : Kp c.bx H H') (r : SsR c H A σ σV) : SsR c H' A σ σV :=
  ⟨r.len, fun i s e => let ⟨v, e1, q⟩ := r.at_ i s e; ⟨v, e1, q.keep b k⟩, r.ap⟩
theorem Wd.fresh (w : Wd c H A h) {p : Addr} (n : H p = none) : p ∉ A := fun hp => by
  obtain ⟨o, e⟩ := w.dom p hp
  rw [n] at e; cases e
theorem Wd.keep (w : Wd c H A h) (k : Kp c.bx H H') (box : ∀ a, c.bx = some a → H' a = some (.lst (c.bs h'))) : Wd c H' A h' :=
  ⟨fun a ha => by
    by_cases e : c.bx = some a
    · exact ⟨_, box a e⟩
    · obtain ⟨o, q⟩ := w.dom a ha
      exact ⟨o, k a o (fun z => e z.symm) q⟩, w.bin, box⟩
theorem Wd.same (w : Wd c H A h) (k : ∀ a u, H a = some u → H' a = some u) : Wd c H' A h :=
  ⟨fun a ha => let ⟨o, q⟩ := w.dom a ha; ⟨o, k a o q⟩, w.bin, fun a e => k _ _ (w.box a e)⟩
theorem Wd.new (w : Wd c H A h) {p : Addr} {o : HO} (n : H p = none) : Wd c (upd H p o) A h :=
  w.same fun a u e => by rw [upd_ne (ne_of_none e n)]; exact e
end

/-! ### readings -/
/-- an expression that gives x -/
def tEv (c : Cf) (A : List Addr) (σ : Sl) (h : Hist) (x : D) (f : Fl) (h' : Hist) : TE := fun σV H Q =>
  SsR c H A σ σV ∧ Wd c H A h ∧ ∀ v H', Kp c.bx H H' → Wd c H' A h' → Vl c A H H' v x f → Q v H'
def tTs (c : Cf) (A : List Addr) (σ : Sl) (h : Hist) (b : Bool) (h' : Hist) : TT := fun σV H Q =>
  SsR c H A σ σV ∧ Wd c H A h ∧ ∀ H', Kp c.bx H H' → Wd c H' A h' → Q b H'
/-- an argument -/
def ArR (c : Cf) (H : Hp) (A : List Addr) : V → Og.Arg → Prop
  | v, .d x f => match f with
    | .wk => ∃ a, v = .ref a ∧ some a ≠ c.bx ∧ Ow c H A a x
    | .ct => ∃ a, v = .ref a ∧ Gw c a x
    | .pl => Rv c H A v x
    | .fr => Rv c H A v x
  | v, .box => ∃ a, v = .ref a ∧ c.bx = some a
inductive ArL (c : Cf) (H : Hp) (A : List Addr) : List V → List Og.Arg → Prop
  | nil : ArL c H A [] []
  | cons {v : V} {vs : List V} {d : Og.Arg} {ds : List Og.Arg} : ArR c H A v d → ArL c H A vs ds → ArL c H A (v :: vs) (d :: ds)
def tEvs (c : Cf) (A : List Addr) (σ : Sl) (h : Hist) (xs : List Og.Arg) (h' : Hist) : TA := fun σV H Q =>
  SsR c H A σ σV ∧ Wd c H A h ∧ ∀ vs H', Kp c.bx H H' → Wd c H' A h' → ArL c H' A vs xs → Q vs H'
theorem ArR.keep {c : Cf} {H H' : Hp} {A : List Addr} (b : Bin c.bx A) (k : Kp c.bx H H') {v : V} {x : Og.Arg} (r : ArR c H A v x) : ArR c H' A v x := by
  cases x with
  | d x f =>
    cases f with
    | wk => obtain ⟨a, e, n, o⟩ := r; exact ⟨a, e, n, o.keep b n k⟩
    | ct => exact r
    | pl => exact Rv.keep b k r
    | fr => exact Rv.keep b k r
  | box => exact r
theorem ArL.keep {c : Cf} {H H' : Hp} {A : List Addr} (b : Bin c.bx A) (k : Kp c.bx H H') : ∀ {v : List V} {x : List Og.Arg}, ArL c H A v x → ArL c H' A v x
  | _, _, .nil => .nil
  | _, _, .cons r t => .cons (r.keep b k) (ArL.keep b k t)
theorem Vl.arg {c : Cf} {A : List Addr} {H H' : Hp} {v : V} {d : D} {f : Fl} (h : Vl c A H H' v d f) : ArR c H' A v (.d d f) := by
  cases f with
  | wk => obtain ⟨a, e, n, _, o⟩ := h; exact ⟨a, e, n, o⟩
  | ct => exact h
  | pl => exact h
  | fr => exact h.rv (by intro z; cases z) (by intro z; cases z)
theorem ArL.strongs {c : Cf} {H : Hp} {A : List Addr} : ∀ {vs : List V} {xs : List Og.Arg} {l : List D}, ArL c H A vs xs → strongs xs = some l → RvL c H A vs l
  | _, _, l, .nil, e => by simp [Og.strongs] at e; subst e; exact .nil
  | _, _, l, .cons (d := x) r t, e => by
    cases x with
    | box => simp [Og.strongs] at e
    | d x f =>
      cases f with
      | wk => simp [Og.strongs] at e
      | ct => simp [Og.strongs] at e
      | pl =>
        simp only [Og.strongs] at e
        split at e
        · rename_i l' e'; cases e; exact .cons r (ArL.strongs t e')
        · cases e
      | fr =>
        simp only [Og.strongs] at e
        split at e
        · rename_i l' e'; cases e; exact .cons r (ArL.strongs t e')
        · cases e
theorem nc_ok {r : RE} {x : D} {h : Hist} (e : nc r = some (x, h)) : ∃ f, r = .ok x f h ∧ f ≠ .ct := by
  cases r with
  | no => cases e
  | ok y f k =>
    cases f with
    | ct => cases e
    | wk => cases e; exact ⟨_, rfl, by decide⟩
    | pl => cases e; exact ⟨_, rfl, by decide⟩
    | fr => cases e; exact ⟨_, rfl, by decide⟩
theorem strong_ok {r : RE} {x : D} {h : Hist} (e : strong r = some (x, h)) : ∃ f, r = .ok x f h ∧ f ≠ .ct ∧ f ≠ .wk := by
  cases r with
  | no => cases e
  | ok y f k =>
    cases f with
    | ct => cases e
    | wk => cases e
    | pl => cases e; exact ⟨_, rfl, by decide, by decide⟩
    | fr => cases e; exact ⟨_, rfl, by decide, by decide⟩
inductive WnL (c : Cf) (H : Hp) (A : List Addr) : List V → List D → Prop
  | nil : WnL c H A [] []
  | cons {v : V} {vs : List V} {d : D} {ds : List D} : Wn c H A v d → WnL c H A vs ds → WnL c H A (v :: vs) (d :: ds)
theorem ArL.nearly {c : Cf} {H : Hp} {A : List Addr} : ∀ {vs : List V} {xs : List Og.Arg} {l : List D}, ArL c H A vs xs → nearly xs = some l → WnL c H A vs l
  | _, _, l, .nil, e => by simp [Og.nearly] at e; subst e; exact .nil
  | _, _, l, .cons (d := x) r t, e => by
    cases x with
    | box => simp [Og.nearly] at e
    | d x f =>
      cases f with
      | ct => simp [Og.nearly] at e
      | wk =>
        simp only [Og.nearly] at e
        split at e
        · rename_i l' e'; cases e; obtain ⟨a, e, n, o⟩ := r; exact .cons (.inr ⟨a, e, n, o⟩) (ArL.nearly t e')
        · cases e
      | pl =>
        simp only [Og.nearly] at e
        split at e
        · rename_i l' e'; cases e; exact .cons (.inl r) (ArL.nearly t e')
        · cases e
      | fr =>
        simp only [Og.nearly] at e
        split at e
        · rename_i l' e'; cases e; exact .cons (.inl r) (ArL.nearly t e')
        · cases e
inductive WrL (c : Cf) (H : Hp) (A : List Addr) : List V → List D → Prop
  | nil : WrL c H A [] []
  | cons {v : V} {vs : List V} {d : D} {ds : List D} : Wr c H A v d → WrL c H A vs ds → WrL c H A (v :: vs) (d :: ds)
theorem ArL.weaks {c : Cf} {H : Hp} {A : List Addr} : ∀ {vs : List V} {xs : List Og.Arg} {l : List D}, ArL c H A vs xs → weaks xs = some l → WrL c H A vs l
  | _, _, l, .nil, e => by simp [Og.weaks] at e; subst e; exact .nil
  | _, _, l, .cons (d := x) r t, e => by
    cases x with
    | box => simp [Og.weaks] at e
    | d x f =>
      simp only [Og.weaks] at e
      split at e
      · rename_i l' e'
        cases e
        refine .cons ?_ (ArL.weaks t e')
        cases f with
        | wk => obtain ⟨a, e, n, o⟩ := r; exact .inr (.inl ⟨a, e, n, o⟩)
        | ct => exact .inr (.inr r)
        | pl => exact .inl r
        | fr => exact .inl r
      · cases e
end Og

end
section
set_option Elab.async false
set_option linter.all false
set_option maxRecDepth 100000
set_option maxHeartbeats 4000000
/-! The operations by values keep the reading. -/
namespace Og
open PySem L2

theorem leI_iff {a b : Int} : leI a b = decide (a ≤ b) := by
  cases a <;> cases b <;> simp only [leI]
  · rename_i m n; rw [Bool.eq_iff_iff]; simp
  · rename_i m n; simp
    omega
  · rename_i m n; simp
    omega
  · rename_i m n; rw [Bool.eq_iff_iff]; simp; omega
theorem eqI_iff {a b : Int} : eqI a b = decide (a = b) := by
  cases a <;> cases b <;> simp only [eqI]
  · rename_i m n; rw [Bool.eq_iff_iff]; simp; omega
  · rename_i m n; simp
  · rename_i m n; simp
  · rename_i m n; rw [Bool.eq_iff_iff]; simp
theorem ltI_iff {a b : Int} : ltI a b = decide (a < b) := by
  unfold ltI; rw [leI_iff]; rw [Bool.eq_iff_iff]; simp; omega
theorem small_iff {i : Int} (h : small i = true) : -(2 ^ 64) < i ∧ i < 2 ^ 64 := by
  cases i with
  | ofNat n => simp [small] at h; show -(2 ^ 64) < (n : Int) ∧ (n : Int) < 2 ^ 64; omega
  | negSucc n => simp [small] at h; omega
theorem wide_iff {i : Int} (h : wide i = true) : -(2 ^ 62) ≤ i ∧ i < 2 ^ 62 := by
  simp only [wide, Bool.and_eq_true, leI_iff, ltI_iff, decide_eq_true_eq] at h
  omega
theorem lenOk_iff {n : Nat} (h : lenOk n = true) : n ≤ sizeLine := by
  rw [sizeLine_eq]; simpa [lenOk] using h

def bopP : Bop → Operator
  | .add => .Add
  | .sub => .Sub
  | .mul => .Mult
  | .fdiv => .FloorDiv
  | .mod => .Mod
  | .pow => .Pow
def copP : Cop → CmpOp
  | .eq => .Eq
  | .ne => .NotEq
  | .lt => .Lt
  | .le => .LtE
  | .gt => .Gt
  | .ge => .GtE
  | .is_ => .Is
  | .isn => .IsNot
  | .in_ => .In
  | .nin => .NotIn

/-- two values in, one out (no constants) -/
def r2n (c : Cf) (A : List Addr) (h : Hist) (dx dy z : D) (f : Fl) (h' : Hist) : R2 := fun x y H Q =>
  Wn c H A x dx ∧ Wn c H A y dy ∧ Wd c H A h ∧ ∀ v H', Kp c.bx H H' → Wd c H' A h' → Vl c A H H' v z f → Q v H'
/-- y is readable; a dict of the module is asked by texts -/
def Wy (c : Cf) (H : Hp) (A : List Addr) (y : V) (dy dx : D) : Prop := Wn c H A y dy ∨ ∃ a, y = .ref a ∧ Gw c a dy ∧ ∀ ds, dy = .dict ds → isStrD dx = true
theorem Wy.wr {c : Cf} {H : Hp} {A : List Addr} {y : V} {dy dx : D} (h : Wy c H A y dy dx) : Wr c H A y dy := by
  rcases h with h | ⟨a, e, g, _⟩
  · exact h.wr
  · exact .inr (.inr ⟨a, e, g⟩)
theorem Vl.wy {c : Cf} {H H' : Hp} {A : List Addr} {y : V} {dy dx : D} {f : Fl} (h : Vl c A H H' y dy f) (k : ctOk f dx dy = true) : Wy c H' A y dy dx := by
  cases f with
  | ct =>
    obtain ⟨a, e, g⟩ := h
    refine .inr ⟨a, e, g, fun ds z => ?_⟩
    subst z
    exact k
  | wk => exact .inl (h.wn (by decide))
  | pl => exact .inl (h.wn (by decide))
  | fr => exact .inl (h.wn (by decide))
theorem Wy.keep {c : Cf} {H H' : Hp} {A : List Addr} {y : V} {dy dx : D} (b : Bin c.bx A) (k : Kp c.bx H H') (h : Wy c H A y dy dx) : Wy c H' A y dy dx := by
  rcases h with h | h
  · exact .inl (h.keep b k)
  · exact .inr h
/-- a dict of the module -/
theorem kd_get {c : Cf} {a : Addr} {z0 : Str} : ∀ {zs : List Str} {vs : List V} {ds : List (D × D)}, ds.map (fun p => p.1) = zs.map PyData.str → Paired (fun z v => ∃ u, PySem.W.nsIn c.K a z = some (some u) ∧ RelV v u) zs vs → Paired Sc vs (ds.map (fun p => p.2)) →
    (getKey (.str z0) ds = none ∧ z0 ∉ zs) ∨ ∃ d v u, getKey (.str z0) ds = some d ∧ PySem.W.nsIn c.K a z0 = some (some u) ∧ RelV v u ∧ Sc v d
  | [], _, [], _, .nil, _ => .inl ⟨rfl, by simp⟩
  | [], _, _ :: _, e, _, _ => by simp at e
  | z :: zs, _, [], e, _, _ => by simp at e
  | z :: zs, _, (k, x) :: ds, e, .cons h1 t1, .cons h2 t2 => by
    simp only [List.map_cons, List.cons.injEq] at e
    obtain ⟨e1, e2⟩ := e
    subst e1
    by_cases q : z = z0
    · subst q
      obtain ⟨u, hu, ru⟩ := h1
      refine .inr ⟨x, _, u, ?_, hu, ru, h2⟩
      simp [getKey, PyData.eqv]
    · have q' : PyData.eqv (.str z) (.str z0) = false := by rw [PyData.eqv]; simpa using q
      rcases kd_get (z0 := z0) e2 t1 t2 with ⟨a1, b1⟩ | ⟨d, v, u, a1, b1, c1, d1⟩
      · exact .inl ⟨by simp [getKey, q', a1], by simp only [List.mem_cons, not_or]; exact ⟨fun e => q e.symm, b1⟩⟩
      · exact .inr ⟨d, v, u, by simp [getKey, q', a1], b1, c1, d1⟩
/-- two values in, one out -/
def r2 (c : Cf) (A : List Addr) (h : Hist) (dx dy z : D) (f : Fl) (h' : Hist) : R2 := fun x y H Q =>
  Wn c H A x dx ∧ Wy c H A y dy dx ∧ Wd c H A h ∧ ∀ v H', Kp c.bx H H' → Wd c H' A h' → Vl c A H H' v z f → Q v H'

section
variable {X : Cx} {c : Cf} {A : List Addr} {H : Hp} {h h' : Hist}
theorem newL {p : Addr} {o : HO} {xs : List V} {ds : List D} (b : Bin c.bx A) (hp : H p = none) (r : RvL c H A xs ds) : RvL c (upd H p o) (p :: A) xs ds :=
  (r.more hp).keep (fun a e => List.mem_cons_of_mem _ (b a e)) (Kp.new hp)
theorem newLA {p : Addr} {o : HO} {xs : List V} {ds : List D} (b : Bin c.bx A) (hp : H p = none) (r : RvL c H A xs ds) : RvL c (upd H p o) A xs ds :=
  r.keep b (Kp.new hp)
/-- a new list of strong parts -/
theorem vl_newL {p : Addr} {xs : List V} {ds : List D} (w : Wd c H A h) (hp : H p = none) (r : RvL c H A xs ds) : Vl c A H (upd H p (.lst xs)) (.ref p) (.list ds) .fr :=
  ⟨p, rfl, hp, w.fresh hp, .lst upd_same (newL w.bin hp r)⟩
theorem vl_newT {p : Addr} {xs : List V} {ds : List D} (w : Wd c H A h) (hp : H p = none) (r : RvL c H A xs ds) : Vl c A H (upd H p (.tup xs)) (.ref p) (.tuple ds) .pl :=
  Rv.tup ⟨upd_same, w.fresh hp⟩ (newLA w.bin hp r)

theorem RvL.map_append {vs us : List V} {ds es : List D} (a : RvL c H A vs ds) (b : RvL c H A us es) : RvL c H A (vs ++ us) (ds ++ es) := a.append b
theorem RvL.rep {xs : List V} {ds : List D} (r : RvL c H A xs ds) : ∀ n : Nat, RvL c H A (List.replicate n xs).flatten (repL ds n)
  | 0 => by simp [repL]; exact .nil
  | n + 1 => by simp only [repL, List.replicate_succ, List.flatten_cons]; exact r.append (RvL.rep r n)

theorem op_bin {op : Bop} {dx dy z : D} {f : Fl} (hK : X.K = c.K) (e : binV op dx dy h = .ok z f h') : OpR X (binaryOp (bopP op)) (r2n c A h dx dy z f h') := by
  intro pins s σ H x y v u Q I rx ry ⟨hx', hy', hw, q⟩
  have hx := hx'.wr
  have hy := hy'.wr
  have kI : ∀ {i : Int} {k : Hist}, mkI i k = .ok z f h' → z = .int i ∧ f = .pl ∧ h' = k := fun e => by
    rw [mkI_eq] at e; cases e; exact ⟨rfl, rfl, rfl⟩
  cases op with
  | add =>
    cases dx with
    | int i =>
      cases dy with
      | int j =>
        simp only [binV, addV] at e
        obtain ⟨rfl, rfl, rfl⟩ := kI e
        have e1 := hx.int; have e2 := hy.int; subst e1 e2
        exact op_add pins s σ H _ _ v u Q I rx ry ⟨i, j, rfl, rfl, q _ _ .refl hw (Rv.int _)⟩
      | _ => simp [binV, addV] at e
    | list xs =>
      cases dy with
      | list ys =>
        simp only [binV, addV] at e
        split at e
        · rename_i hz
          cases e
          obtain ⟨a, xv, rfl, ha, ra⟩ := hx.lst
          obtain ⟨b, yv, rfl, hb, rb⟩ := hy.lst
          refine op_cat pins s σ H _ _ v u Q I rx ry ⟨a, b, xv, yv, rfl, rfl, ha, hb, ?_, fun p hp => q _ _ (Kp.new hp) (hw.new hp) (vl_newL hw hp (ra.append rb))⟩
          rw [ra.length, rb.length]; exact lenOk_iff hz
        · cases e
      | _ => simp [binV, addV] at e
    | tuple xs =>
      cases dy with
      | tuple ys =>
        simp only [binV, addV] at e
        split at e
        · rename_i hz
          cases e
          obtain ⟨a, xv, rfl, ha, ra⟩ := hx.tup
          obtain ⟨b, yv, rfl, hb, rb⟩ := hy.tup
          have ra' := ra
          have rb' := rb
          refine op_catA pins s σ H _ _ v u Q I rx ry ⟨a, b, xv, yv, rfl, rfl, by rw [hK]; exact ha, by rw [hK]; exact hb, by rw [ra.length, rb.length]; exact lenOk_iff hz, fun e => ?_, fun _ e => ?_, fun _ _ p hp => q _ _ (Kp.new hp) (hw.new hp) (vl_newT hw hp (ra.append rb))⟩
          · subst e
            have : xs = [] := by have := ra.length; simpa using this.symm
            subst this
            exact q _ _ .refl hw (by obtain ⟨b', y', e', t', r'⟩ := hy'.tup; cases e'; exact Rv.tup t' r')
          · subst e
            have : ys = [] := by have := rb.length; simpa using this.symm
            subst this
            obtain ⟨b', y', e', t', r'⟩ := hx'.tup
            cases e'
            exact q _ _ .refl hw (by rw [List.append_nil]; exact Rv.tup t' r')
        · cases e
      | _ => simp [binV, addV] at e
    | _ => cases dy <;> simp [binV, addV] at e
  | sub =>
    cases dx with
    | int i =>
      cases dy with
      | int j =>
        simp only [binV] at e
        obtain ⟨rfl, rfl, rfl⟩ := kI e
        have e1 := hx.int; have e2 := hy.int; subst e1 e2
        exact op_sub pins s σ H _ _ v u Q I rx ry ⟨i, j, rfl, rfl, q _ _ .refl hw (Rv.int _)⟩
      | _ => simp [binV] at e
    | _ => cases dy <;> simp [binV] at e
  | mul =>
    cases dx with
    | int i =>
      cases dy with
      | int j =>
        simp only [binV, mulV] at e
        split at e
        · rename_i hs
          obtain ⟨rfl, rfl, rfl⟩ := kI e
          have e1 := hx.int; have e2 := hy.int; subst e1 e2
          refine op_mul pins s σ H _ _ v u Q I rx ry ⟨i, j, rfl, rfl, ?_, q _ _ .refl hw (Rv.int _)⟩
          rw [Bool.or_eq_true] at hs
          rcases hs with hs | hs
          · exact .inl (small_iff hs)
          · exact .inr (small_iff hs)
        · cases e
      | _ => simp [binV, mulV] at e
    | list xs =>
      cases dy with
      | int j =>
        simp only [binV, mulV] at e
        split at e
        · rename_i hs
          cases e
          rw [Bool.and_eq_true] at hs
          obtain ⟨a, xv, rfl, ha, ra⟩ := hx.lst
          have e2 := hy.int; subst e2
          have hj := wide_iff hs.1
          refine op_rep pins s σ H _ _ v u Q I rx ry ⟨a, j, xv, rfl, rfl, ha, by omega, by omega, ?_, fun p hp => q _ _ (Kp.new hp) (hw.new hp) (vl_newL hw hp (ra.rep _))⟩
          rw [ra.length]; exact lenOk_iff hs.2
        · cases e
      | _ => simp [binV, mulV] at e
    | tuple xs =>
      cases dy with
      | int j =>
        simp only [binV, mulV] at e
        split at e
        · rename_i hs
          cases e
          simp only [Bool.and_eq_true, leI_iff, decide_eq_true_eq, Nat.ble_eq] at hs
          obtain ⟨a, xv, rfl, ha, ra⟩ := hx.tup
          have e2 := hy.int; subst e2
          refine op_repT pins s σ H _ _ v u Q I rx ry ⟨a, j, xv, rfl, rfl, by rw [hK]; exact ha, ?_, hs.2.1, hs.2.2.1, by rw [ra.length]; exact hs.2.2.2, fun p hp => q _ _ (Kp.new hp) (hw.new hp) (vl_newT hw hp (ra.rep _))⟩
          intro z
          subst z
          have := ra.length
          have h1 := hs.1
          cases xs with
          | nil => simp at h1
          | cons _ _ => simp at this
        · cases e
      | _ => simp [binV, mulV] at e
    | _ => cases dy <;> simp [binV, mulV] at e
  | fdiv =>
    cases dx with
    | int i =>
      cases dy with
      | int j =>
        simp only [binV] at e
        split at e
        · rename_i hs
          obtain ⟨rfl, rfl, rfl⟩ := kI e
          have e1 := hx.int; have e2 := hy.int; subst e1 e2
          rw [Bool.and_eq_true, ltI_iff] at hs
          have h0 : (0 : Int) < j := of_decide_eq_true hs.2
          have h1 := small_iff hs.1
          refine op_fdivW pins s σ H _ _ v u Q I rx ry ⟨i, j, rfl, rfl, wide_div (b := 64) h0 ?_ (by decide) (by decide), q _ _ .refl hw (Rv.int _)⟩
          omega
        · cases e
      | _ => simp [binV] at e
    | _ => cases dy <;> simp [binV] at e
  | mod =>
    cases dx with
    | int i =>
      cases dy with
      | int j =>
        simp only [binV] at e
        split at e
        · rename_i hs
          obtain ⟨rfl, rfl, rfl⟩ := kI e
          have e1 := hx.int; have e2 := hy.int; subst e1 e2
          rw [ltI_iff] at hs
          exact op_mod pins s σ H _ _ v u Q I rx ry ⟨i, j, rfl, rfl, of_decide_eq_true hs, q _ _ .refl hw (Rv.int _)⟩
        · cases e
      | _ => simp [binV] at e
    | _ => cases dy <;> simp [binV] at e
  | pow =>
    cases dx with
    | int i =>
      cases dy with
      | int j =>
        simp only [binV] at e
        split at e
        · rename_i hs
          obtain ⟨rfl, rfl, rfl⟩ := kI e
          have e1 := hx.int; have e2 := hy.int; subst e1 e2
          rw [Bool.and_eq_true, Bool.and_eq_true, leI_iff, leI_iff] at hs
          have h1 := small_iff hs.1.1
          have h2 : (0 : Int) ≤ j := of_decide_eq_true hs.1.2
          have h3 : j ≤ 1000 := of_decide_eq_true hs.2
          refine op_pow pins s σ H _ _ v u Q I rx ry ⟨i, j, rfl, rfl, ⟨h2, by omega, by omega⟩, q _ _ .refl hw (Rv.int _)⟩
        · cases e
      | _ => simp [binV] at e
    | _ => cases dy <;> simp [binV] at e

/-! ### keys -/
theorem keyA_of {d : D} {v : V} (e : keyA d = true) (r : Wn c H A v d) : ∃ k : Key, d = keyD k ∧ v = kV k := by
  cases d with
  | int i => have a := r.wr.int; subst a; exact ⟨.inl i, rfl, rfl⟩
  | str i => have a := r.wr.str; subst a; exact ⟨.inr i, rfl, rfl⟩
  | _ => simp [keyA] at e
theorem keysA_of : ∀ {ds : List D} {vs : List V}, ds.all keyA = true → RvL c H A vs ds → ∃ ks : List Key, ds = ks.map keyD ∧ vs = ks.map kV
  | [], _, _, .nil => ⟨[], rfl, rfl⟩
  | d :: ds, _, e, .cons r t => by
    simp only [List.all_cons, Bool.and_eq_true] at e
    obtain ⟨k, h1, h2⟩ := keyA_of e.1 (.inl r)
    obtain ⟨ks, h3, h4⟩ := keysA_of e.2 t
    exact ⟨k :: ks, by simp [h1, h3], by simp [h2, h4]⟩
theorem keyT_of {d : D} {v : V} (e : keyT d = true) (r : Wn c H A v d) : ∃ (ks : List Key) (b : Addr), d = .tuple (ks.map keyD) ∧ v = .ref b ∧ H b = some (.tup (ks.map kV)) := by
  cases d with
  | tuple xs =>
    obtain ⟨b, ys, rfl, t, q⟩ := r.tup
    obtain ⟨ks, h1, h2⟩ := keysA_of (show xs.all keyA = true from e) q
    subst h1 h2
    exact ⟨ks, b, rfl, rfl, t.1⟩
  | _ => simp [keyT] at e
theorem eqv_keyD (a b : Key) : PyData.eqv (keyD a) (keyD b) = decide (a = b) := by
  cases a <;> cases b <;> simp [keyD, PyData.eqv] <;> (rw [Bool.eq_iff_iff]; simp)
theorem eqv_keyDs : ∀ (a b : List Key), PyData.eqvAll (a.map keyD) (b.map keyD) = decide (a = b)
  | [], [] => by simp [PyData.eqvAll]
  | [], _ :: _ => by simp [PyData.eqvAll]
  | _ :: _, [] => by simp [PyData.eqvAll]
  | a :: r, b :: t => by
    simp only [List.map_cons, PyData.eqvAll, eqv_keyD, eqv_keyDs r t]
    rw [Bool.eq_iff_iff]; simp
theorem eqv_keyT (a b : List Key) : PyData.eqv (.tuple (a.map keyD)) (.tuple (b.map keyD)) = decide (a = b) := by
  rw [PyData.eqv]; exact eqv_keyDs a b
/-- a dict's tree and its pairs -/
theorem get_at {κ : Type} [DecidableEq κ] {g : κ → D} (inj : ∀ a b, PyData.eqv (g a) (g b) = decide (a = b)) (k : κ) : ∀ {kvs : List (κ × V)} {ds : List (D × D)}, ds.map (fun p => p.1) = kvs.map (fun p => g p.1) → RvL c H A (kvs.map (fun p => p.2)) (ds.map (fun p => p.2)) →
    (getKey (g k) ds = none ∧ valV kvs k = none) ∨ ∃ d v, getKey (g k) ds = some d ∧ valV kvs k = some v ∧ Rv c H A v d
  | [], [], _, _ => .inl ⟨rfl, rfl⟩
  | [], _ :: _, e, _ => by simp at e
  | _ :: _, [], e, _ => by simp at e
  | (q, v) :: r, (d, x) :: t, e, l => by
    simp only [List.map_cons, List.cons.injEq] at e
    obtain ⟨e1, e2⟩ := e
    subst e1
    cases l with
    | cons h1 h2 =>
      by_cases hq : q = k
      · subst hq
        refine .inr ⟨x, v, ?_, valV_pos rfl, h1⟩
        simp [getKey, inj]
      · have hq' : PyData.eqv (g q) (g k) = false := by rw [inj]; simpa using hq
        rcases get_at inj k e2 h2 with ⟨a, b⟩ | ⟨d, w, a, b, z⟩
        · exact .inl ⟨by simp [getKey, hq', a], by rw [valV_neg hq]; exact b⟩
        · exact .inr ⟨d, w, by simp [getKey, hq', a], by rw [valV_neg hq]; exact b, z⟩
theorem has_get (k : D) : ∀ ds : List (D × D), hasKey k ds = (getKey k ds).isSome
  | [] => rfl
  | (q, v) :: r => by
    simp only [hasKey, getKey]
    cases h : PyData.eqv q k with
    | true => rfl
    | false => exact has_get k r
/-- an empty dict is of either kind -/
theorem nilT {pins : List (Addr × Obj)} {σ : L2.St} {s : Shared} {a : Addr} (I : Inv X pins σ H s) (e : H a = some (.dK [])) : Inv X pins σ (upd H a (.dT [])) s := by
  obtain ⟨_, hd, vs, rel, ob, es, ep, h1, h2, h3, h4, h5, h6⟩ := dk_of I.hok e
  have ev : vs = [] := by have := rel.length; simpa using this.symm
  subst ev
  have ee : es.toList = [] := by
    generalize es.toList = l at h5
    cases h5; rfl
  exact I.write (t' := s.toks) (x := a) (e := a) (by rw [e]; exact True.intro) (.inl rfl) (fun b u _ q => q) ⟨ob, h1⟩ ⟨Nat.zero_le _, hd, [], .nil, ob, es, ep, h1, h2, h3, by rw [ee]; rfl, List.nodup_nil⟩
theorem nilK {pins : List (Addr × Obj)} {σ : L2.St} {s : Shared} {a : Addr} (I : Inv X pins σ H s) (e : H a = some (.dT [])) : Inv X pins σ (upd H a (.dK [])) s := by
  obtain ⟨_, hd, xs, rel, ob, es, ep, h1, h2, h3, h4, h5⟩ := (show ObjOk X.prog X.w H s.heap a (.dT []) from I.hok a _ e)
  cases rel
  have ee : es = #[] := by
    cases es with
    | mk l => simp at h4; simp [h4]
  subst ee
  exact I.write (t' := s.toks) (x := a) (e := a) (by rw [e]; exact True.intro) (.inl rfl) (fun b u _ q => q) ⟨ob, h1⟩ ⟨Nat.zero_le _, hd, [], .nil, ob, #[], ep, h1, h2, h3, fun x hx => by simp at hx, .nil, List.nodup_nil⟩
theorem upd_back {H : Hp} {a : Addr} {o o' : HO} (h : H a = some o) : upd (upd H a o') a o = H := by
  rw [upd_upd]; funext b; unfold upd; split
  · rename_i e; rw [e, h]
  · rfl

/-- a tracked dict is asked -/
theorem dlook {pins : List (Addr × Obj)} {σ : L2.St} {s : Shared} {y x : V} {ds : List (D × D)} {k : D} (I : Inv X pins σ H s) (hy : Wn c H A y (.dict ds)) (kx : Wn c H A x k) (ok : keyOk k ds = true) :
    ∃ a H2 ov, y = .ref a ∧ Inv X pins σ H2 s ∧ (∀ s', Inv X pins σ H2 s' → Inv X pins σ H s') ∧ DGet H2 a x ov ∧ ((getKey k ds = none ∧ ov = none) ∨ ∃ d v, getKey k ds = some d ∧ ov = some v ∧ Rv c H A v d) := by
  have hd : ∃ a, y = .ref a ∧ ((∃ kvs : List (Key × V), (L2.Rd H a (.dK kvs) ∧ (kvs = [] → H a = some (.dK []))) ∧ ds.map (fun p => p.1) = kvs.map (fun p => keyD p.1) ∧ RvL c H A (kvs.map (fun p => p.2)) (ds.map (fun p => p.2))) ∨
      (∃ kvs : List (List Key × V), (L2.Rd H a (.dT kvs) ∧ (kvs = [] → H a = some (.dT []))) ∧ ds.map (fun p => p.1) = kvs.map (fun p => .tuple (p.1.map keyD)) ∧ RvL c H A (kvs.map (fun p => p.2)) (ds.map (fun p => p.2)))) := by
    rcases hy with r | ⟨a, e, n, o⟩
    · cases r with
      | dic h l =>
        rcases h with ⟨kvs, h1, _, h2, h3⟩ | ⟨kvs, h1, _, h2, h3⟩
        · subst h3; exact ⟨_, rfl, .inl ⟨kvs, h1, h2, l⟩⟩
        · subst h3; exact ⟨_, rfl, .inr ⟨kvs, h1, h2, l⟩⟩
    · refine ⟨a, e, ?_⟩
      cases o with
      | dK e q l => exact .inl ⟨_, ⟨.inl e, fun z => by subst z; exact e⟩, q, l⟩
      | dT e q l => exact .inr ⟨_, ⟨.inl e, fun z => by subst z; exact e⟩, q, l⟩
  obtain ⟨a, rfl, hd⟩ := hd
  refine ⟨a, ?_⟩
  unfold keyOk at ok
  cases hk : keyA k with
  | true =>
    rw [hk] at ok
    obtain ⟨κ, rfl, rfl⟩ := keyA_of hk kx
    rcases hd with ⟨kvs, ⟨e, _⟩, q, l⟩ | ⟨kvs, ⟨e, e0⟩, q, l⟩
    · refine ⟨H, valV kvs κ, rfl, I, fun _ z => z, .inl ⟨kvs, κ, e, rfl, rfl⟩, ?_⟩
      exact get_at (g := keyD) eqv_keyD κ q l
    · cases kvs with
      | nil =>
        have hds : ds = [] := by cases ds with
          | nil => rfl
          | cons _ _ => simp at q
        subst hds
        have eT := e0 rfl
        refine ⟨upd H a (.dK []), none, rfl, nilK I eT, fun s' z => ?_, .inl ⟨[], κ, .inl upd_same, rfl, rfl⟩, .inl ⟨rfl, rfl⟩⟩
        have := nilT (X := X) z upd_same
        rwa [upd_back eT] at this
      | cons p r =>
        cases ds with
        | nil => simp at q
        | cons d t =>
          simp only [List.map_cons, List.cons.injEq] at q
          simp only [List.all_cons, Bool.and_eq_true] at ok
          rw [q.1] at ok
          simp [keyA] at ok
  | false =>
    rw [hk] at ok
    simp only [Bool.and_eq_true] at ok
    obtain ⟨ks, b, rfl, rfl, hb⟩ := keyT_of ok.1 kx
    rcases hd with ⟨kvs, ⟨e, e0⟩, q, l⟩ | ⟨kvs, ⟨e, _⟩, q, l⟩
    · cases kvs with
      | nil =>
        have hds : ds = [] := by cases ds with
          | nil => rfl
          | cons _ _ => simp at q
        subst hds
        have eK := e0 rfl
        have nb : b ≠ a := ne_of hb eK (by intro z; cases z)
        refine ⟨upd H a (.dT []), none, rfl, nilT I eK, fun s' z => ?_, .inr ⟨[], ks, b, .inl upd_same, rfl, by rw [upd_ne nb]; exact hb, rfl⟩, .inl ⟨rfl, rfl⟩⟩
        have := nilK (X := X) z upd_same
        rwa [upd_back eK] at this
      | cons p r =>
        cases ds with
        | nil => simp at q
        | cons d t =>
          simp only [List.map_cons, List.cons.injEq] at q
          have h2 := ok.2
          simp only [List.all_cons, Bool.and_eq_true] at h2
          rw [q.1] at h2
          cases p with
          | mk p1 p2 => cases p1 <;> simp [keyD, keyT] at h2
    · refine ⟨H, valV kvs ks, rfl, I, fun _ z => z, .inr ⟨kvs, ks, b, e, rfl, hb, rfl⟩, ?_⟩
      exact get_at (g := fun l : List Key => .tuple (l.map keyD)) eqv_keyT ks q l

theorem cps_eq {x y : Str} : decide (x = y) = (x == y) := by
  rw [Bool.eq_iff_iff]; simp
theorem ltN_iff : ∀ {a b : List Nat}, ltN a b = decide (a < b)
  | [], [] => by simp [ltN]
  | [], _ :: _ => by simp [ltN]
  | _ :: _, [] => by simp [ltN]
  | a :: r, b :: t => by
    simp only [ltN]
    by_cases e : a = b
    · subst e
      simp only [Nat.beq_refl, ltN_iff (a := r) (b := t)]
      rw [Bool.eq_iff_iff]; simp [List.cons_lt_cons_iff]
    · have e1 : Nat.beq a b = false := by
        cases h : Nat.beq a b with
        | false => rfl
        | true => exact absurd (Nat.eq_of_beq_eq_true h) e
      rw [e1]
      rw [Bool.eq_iff_iff]; simp [List.cons_lt_cons_iff, e]
theorem shapedL_lay : ∀ {ys : List D}, shapedL ys = true → PyData.canLayAll0 ys = true
  | [], _ => rfl
  | y :: r, e => by
    simp only [shapedL, List.all_cons, Bool.and_eq_true] at e
    simp only [PyData.canLayAll0, Bool.and_eq_true]
    exact ⟨SeqAt.canLay_of_shaped e.1, shapedL_lay e.2⟩
theorem kB {z : D} {f : Fl} {b : Bool} {k : Hist} (e : mkB b k = .ok z f h') : z = .bool b ∧ f = .pl ∧ h' = k := by
  rw [mkB_eq] at e; cases e; exact ⟨rfl, rfl, rfl⟩

theorem op_cmp {op : Cop} {dx dy z : D} {f : Fl} (hK : X.K = c.K) (hwd : X.w = c.w) (hu : X.A.units + 65 < cLine) (e : cmpV op dx dy h = .ok z f h') : OpR X (compareOp (copP op)) (r2 c A h dx dy z f h') := by
  intro pins s σ H x y v u Q I rx ry ⟨hx', hy', hw, q⟩
  have hx := hx'.wr
  have hy := hy'.wr
  have qB : ∀ b, z = .bool b → f = .pl → h' = h → Q (.bl b) H := fun b e1 e2 e3 => by
    subst e1 e2 e3; exact q _ _ .refl hw (Rv.bl b)
  cases op with
  | eq =>
    simp only [cmpV, cEq] at e
    split at e
    · rename_i hs
      rw [Bool.and_eq_true] at hs
      obtain ⟨e1, e2, e3⟩ := kB e
      exact op_eqD (by omega) pins s σ H _ _ v u Q I rx ry ⟨dx, dy, by rw [hK]; exact hx.dp (SeqAt.canLay_of_shaped hs.1), by rw [hK]; exact hy.dp (SeqAt.canLay_of_shaped hs.2), hs.1, hs.2, qB _ e1 e2 e3⟩
    · cases e
  | ne =>
    simp only [cmpV, cNe] at e
    split at e
    · rename_i hs
      rw [Bool.and_eq_true] at hs
      obtain ⟨e1, e2, e3⟩ := kB e
      exact op_neD (by omega) pins s σ H _ _ v u Q I rx ry ⟨dx, dy, by rw [hK]; exact hx.dp (SeqAt.canLay_of_shaped hs.1), by rw [hK]; exact hy.dp (SeqAt.canLay_of_shaped hs.2), hs.1, hs.2, qB _ e1 e2 e3⟩
    · cases e
  | lt =>
    cases dx with
    | int i =>
      cases dy with
      | int j =>
        simp only [cmpV, cLt] at e
        obtain ⟨e1, e2, e3⟩ := kB e
        have a1 := hx.int; have a2 := hy.int; subst a1 a2
        exact op_lt pins s σ H _ _ v u Q I rx ry ⟨i, j, rfl, rfl, by have := qB _ e1 e2 e3; rwa [ltI_iff] at this⟩
      | _ => simp [cmpV, cLt] at e
    | str i =>
      cases dy with
      | str j =>
        simp only [cmpV, cLt] at e
        obtain ⟨e1, e2, e3⟩ := kB e
        have a1 := hx.str; have a2 := hy.str; subst a1 a2
        exact op_lt_str pins s σ H _ _ v u Q I rx ry ⟨i, j, rfl, rfl, by have := qB _ e1 e2 e3; rwa [ltN_iff] at this⟩
      | _ => simp [cmpV, cLt] at e
    | _ => cases dy <;> simp [cmpV, cLt] at e
  | le =>
    cases dx with
    | int i =>
      cases dy with
      | int j =>
        simp only [cmpV, cLe] at e
        obtain ⟨e1, e2, e3⟩ := kB e
        have a1 := hx.int; have a2 := hy.int; subst a1 a2
        exact op_le pins s σ H _ _ v u Q I rx ry ⟨i, j, rfl, rfl, by have := qB _ e1 e2 e3; rwa [leI_iff] at this⟩
      | _ => simp [cmpV, cLe] at e
    | _ => cases dy <;> simp [cmpV, cLe] at e
  | gt =>
    cases dx with
    | int i =>
      cases dy with
      | int j =>
        simp only [cmpV, cLt] at e
        obtain ⟨e1, e2, e3⟩ := kB e
        have a1 := hx.int; have a2 := hy.int; subst a1 a2
        exact op_gt pins s σ H _ _ v u Q I rx ry ⟨i, j, rfl, rfl, by have := qB _ e1 e2 e3; rwa [ltI_iff] at this⟩
      | _ => simp [cmpV, cLt] at e
    | str i =>
      cases dy with
      | str j =>
        simp only [cmpV, cLt] at e
        obtain ⟨e1, e2, e3⟩ := kB e
        have a1 := hx.str; have a2 := hy.str; subst a1 a2
        exact op_gt_str pins s σ H _ _ v u Q I rx ry ⟨i, j, rfl, rfl, by have := qB _ e1 e2 e3; rwa [ltN_iff] at this⟩
      | _ => simp [cmpV, cLt] at e
    | _ => cases dy <;> simp [cmpV, cLt] at e
  | ge =>
    cases dx with
    | int i =>
      cases dy with
      | int j =>
        simp only [cmpV, cLe] at e
        obtain ⟨e1, e2, e3⟩ := kB e
        have a1 := hx.int; have a2 := hy.int; subst a1 a2
        exact op_ge pins s σ H _ _ v u Q I rx ry ⟨i, j, rfl, rfl, by have := qB _ e1 e2 e3; rwa [leI_iff] at this⟩
      | _ => simp [cmpV, cLe] at e
    | _ => cases dy <;> simp [cmpV, cLe] at e
  | is_ =>
    cases dy with
    | none =>
      have a2 := hy.non; subst a2
      refine op_isN pins s σ H _ _ v u Q I rx ry ⟨rfl, ?_⟩
      simp only [cmpV, cIs] at e
      have key : z = .bool (decide (x = .non)) ∧ f = .pl ∧ h' = h := by
        cases dx with
        | none => have a1 := hx.non; subst a1; obtain ⟨e1, e2, e3⟩ := kB e; exact ⟨by simpa using e1, e2, e3⟩
        | bool b => have a1 := hx.bl; subst a1; obtain ⟨e1, e2, e3⟩ := kB e; exact ⟨by simpa using e1, e2, e3⟩
        | int b => have a1 := hx.int; subst a1; obtain ⟨e1, e2, e3⟩ := kB e; exact ⟨by simpa using e1, e2, e3⟩
        | str b => have a1 := hx.str; subst a1; obtain ⟨e1, e2, e3⟩ := kB e; exact ⟨by simpa using e1, e2, e3⟩
        | list b => obtain ⟨a, xs, rfl, _⟩ := hx.lst; obtain ⟨e1, e2, e3⟩ := kB e; exact ⟨by simpa using e1, e2, e3⟩
        | tuple b => obtain ⟨a, xs, rfl, _⟩ := hx.tup; obtain ⟨e1, e2, e3⟩ := kB e; exact ⟨by simpa using e1, e2, e3⟩
        | dict b =>
          obtain ⟨a, rfl⟩ := hx.dref
          obtain ⟨e1, e2, e3⟩ := kB e; exact ⟨by simpa using e1, e2, e3⟩
      exact qB _ key.1 key.2.1 key.2.2
    | bool b =>
      cases dx with
      | bool d =>
        simp only [cmpV, cIs] at e
        obtain ⟨e1, e2, e3⟩ := kB e
        have a1 := hx.bl; have a2 := hy.bl; subst a1 a2
        refine op_isBl pins s σ H _ _ v u Q I rx ry ⟨d, b, rfl, rfl, ?_⟩
        have := qB _ e1 e2 e3
        have z : decide (d = b) = (false != (b == d)) := by cases d <;> cases b <;> rfl
        rw [z]; exact this
      | _ => simp [cmpV, cIs] at e
    | _ => cases dx <;> simp [cmpV, cIs] at e
  | isn =>
    cases dy with
    | none =>
      have a2 := hy.non; subst a2
      refine op_notN pins s σ H _ _ v u Q I rx ry ⟨rfl, ?_⟩
      simp only [cmpV, cIs] at e
      have key : z = .bool (!decide (x = .non)) ∧ f = .pl ∧ h' = h := by
        cases dx with
        | none => have a1 := hx.non; subst a1; obtain ⟨e1, e2, e3⟩ := kB e; exact ⟨by simpa using e1, e2, e3⟩
        | bool b => have a1 := hx.bl; subst a1; obtain ⟨e1, e2, e3⟩ := kB e; exact ⟨by simpa using e1, e2, e3⟩
        | int b => have a1 := hx.int; subst a1; obtain ⟨e1, e2, e3⟩ := kB e; exact ⟨by simpa using e1, e2, e3⟩
        | str b => have a1 := hx.str; subst a1; obtain ⟨e1, e2, e3⟩ := kB e; exact ⟨by simpa using e1, e2, e3⟩
        | list b => obtain ⟨a, xs, rfl, _⟩ := hx.lst; obtain ⟨e1, e2, e3⟩ := kB e; exact ⟨by simpa using e1, e2, e3⟩
        | tuple b => obtain ⟨a, xs, rfl, _⟩ := hx.tup; obtain ⟨e1, e2, e3⟩ := kB e; exact ⟨by simpa using e1, e2, e3⟩
        | dict b =>
          obtain ⟨a, rfl⟩ := hx.dref
          obtain ⟨e1, e2, e3⟩ := kB e; exact ⟨by simpa using e1, e2, e3⟩
      exact qB _ key.1 key.2.1 key.2.2
    | bool b =>
      cases dx with
      | bool d =>
        simp only [cmpV, cIs] at e
        obtain ⟨e1, e2, e3⟩ := kB e
        have a1 := hx.bl; have a2 := hy.bl; subst a1 a2
        refine op_notBl pins s σ H _ _ v u Q I rx ry ⟨d, b, rfl, rfl, ?_⟩
        have := qB _ e1 e2 e3
        have z : (!decide (d = b)) = (true != (b == d)) := by cases d <;> cases b <;> rfl
        rw [z]; exact this
      | _ => simp [cmpV, cIs] at e
    | _ => cases dx <;> simp [cmpV, cIs] at e
  | in_ =>
    simp only [cmpV, cIn] at e
    cases dy with
    | list ys =>
      simp only at e
      split at e
      · rename_i hs
        rw [Bool.and_eq_true] at hs
        obtain ⟨e1, e2, e3⟩ := kB e
        have hb := qB _ e1 e2 e3
        have dy := hy.dp (show (PyData.list ys).canLay0 = true by simpa [PyData.canLay0] using shapedL_lay hs.2)
        obtain ⟨as, r1⟩ := Dp.reads I dx x v (by rw [hK]; exact hx.dp (SeqAt.canLay_of_shaped hs.1)) rx
        obtain ⟨bs, r2⟩ := Dp.reads I (.list ys) y u (by rw [hK]; exact dy) ry
        refine SeqAt.in_list_reads r2 r1 (shapedL_lay hs.2) (SeqAt.canLay_of_shaped hs.1) (PyProof.Rows.room_in_shaped hs.1 hu) ⟨.bl _, H, I, rfl, ?_⟩
        simpa [inD] using hb
      · cases e
    | tuple ys =>
      simp only at e
      split at e
      · rename_i hs
        rw [Bool.and_eq_true] at hs
        obtain ⟨e1, e2, e3⟩ := kB e
        have hb := qB _ e1 e2 e3
        have dy := hy.dp (show (PyData.tuple ys).canLay0 = true by simpa [PyData.canLay0] using shapedL_lay hs.2)
        obtain ⟨as, r1⟩ := Dp.reads I dx x v (by rw [hK]; exact hx.dp (SeqAt.canLay_of_shaped hs.1)) rx
        obtain ⟨bs, r2⟩ := Dp.reads I (.tuple ys) y u (by rw [hK]; exact dy) ry
        refine SeqAt.in_tuple_reads r2 r1 (shapedL_lay hs.2) (SeqAt.canLay_of_shaped hs.1) (PyProof.Rows.room_in_shaped hs.1 hu) ⟨.bl _, H, I, rfl, ?_⟩
        simpa [inD] using hb
      · cases e
    | dict ds =>
      simp only at e
      split at e
      · rename_i hs
        obtain ⟨e1, e2, e3⟩ := kB e
        have hb := qB _ e1 e2 e3
        have go : ∀ y', y = y' → Wn c H A y' (.dict ds) → wpAny (model X.prog X.w) X.A (compareOp .In v u) (EP X pins σ Q) X.xe s := fun y' ey hn => by
          subst ey
          obtain ⟨a, H2, ov, rfl, I2, back, g, z⟩ := dlook I hn hx' hs
          cases ry
          refine d_in (by omega) I2 g rx fun s' I' => ⟨.bl _, H, back s' I', rfl, ?_⟩
          rcases z with ⟨z1, z2⟩ | ⟨d, w, z1, z2, _⟩
          · subst z2; rw [has_get, z1] at hb; simpa using hb
          · subst z2; rw [has_get, z1] at hb; simpa using hb
        rcases hy' with r | ⟨a, ea, g, st⟩
        · exact go y rfl r
        · subst ea
          cases g with
          | dic kd ek pr sc no =>
            cases dx with
            | str z0 =>
              have a1 := hx.str; subst a1
              rcases kd_get (z0 := z0) ek pr sc with ⟨k1, k2⟩ | ⟨d, v1, u1, k1, k2, k3, k4⟩
              · exact op_in_kd (by rw [hK, hwd]; exact kd) pins s σ H _ _ v u Q I rx ry ⟨z0, none, rfl, rfl, by rw [hK]; exact no z0 k2, by rw [has_get, k1] at hb; simpa using hb⟩
              · exact op_in_kd (by rw [hK, hwd]; exact kd) pins s σ H _ _ v u Q I rx ry ⟨z0, some u1, rfl, rfl, by rw [hK]; exact k2, by rw [has_get, k1] at hb; simpa using hb⟩
            | _ => exact absurd (st _ rfl) (by simp [isStrD])
      · cases e
    | _ => simp at e
  | nin =>
    simp only [cmpV, cIn] at e
    cases dy with
    | list ys =>
      simp only at e
      split at e
      · rename_i hs
        rw [Bool.and_eq_true] at hs
        obtain ⟨e1, e2, e3⟩ := kB e
        have hb := qB _ e1 e2 e3
        have dy := hy.dp (show (PyData.list ys).canLay0 = true by simpa [PyData.canLay0] using shapedL_lay hs.2)
        obtain ⟨as, r1⟩ := Dp.reads I dx x v (by rw [hK]; exact hx.dp (SeqAt.canLay_of_shaped hs.1)) rx
        obtain ⟨bs, r2⟩ := Dp.reads I (.list ys) y u (by rw [hK]; exact dy) ry
        refine SeqAt.notIn_list_reads r2 r1 (shapedL_lay hs.2) (SeqAt.canLay_of_shaped hs.1) (PyProof.Rows.room_in_shaped hs.1 hu) ⟨.bl _, H, I, rfl, ?_⟩
        simpa [inD] using hb
      · cases e
    | tuple ys =>
      simp only at e
      split at e
      · rename_i hs
        rw [Bool.and_eq_true] at hs
        obtain ⟨e1, e2, e3⟩ := kB e
        have hb := qB _ e1 e2 e3
        have dy := hy.dp (show (PyData.tuple ys).canLay0 = true by simpa [PyData.canLay0] using shapedL_lay hs.2)
        obtain ⟨as, r1⟩ := Dp.reads I dx x v (by rw [hK]; exact hx.dp (SeqAt.canLay_of_shaped hs.1)) rx
        obtain ⟨bs, r2⟩ := Dp.reads I (.tuple ys) y u (by rw [hK]; exact dy) ry
        refine SeqAt.notIn_tuple_reads r2 r1 (shapedL_lay hs.2) (SeqAt.canLay_of_shaped hs.1) (PyProof.Rows.room_in_shaped hs.1 hu) ⟨.bl _, H, I, rfl, ?_⟩
        simpa [inD] using hb
      · cases e
    | dict ds =>
      simp only at e
      split at e
      · rename_i hs
        obtain ⟨e1, e2, e3⟩ := kB e
        have hb := qB _ e1 e2 e3
        have go : ∀ y', y = y' → Wn c H A y' (.dict ds) → wpAny (model X.prog X.w) X.A (compareOp .NotIn v u) (EP X pins σ Q) X.xe s := fun y' ey hn => by
          subst ey
          obtain ⟨a, H2, ov, rfl, I2, back, g, z⟩ := dlook I hn hx' hs
          cases ry
          refine d_notIn (by omega) I2 g rx fun s' I' => ⟨.bl _, H, back s' I', rfl, ?_⟩
          rcases z with ⟨z1, z2⟩ | ⟨d, w, z1, z2, _⟩
          · subst z2; rw [has_get, z1] at hb; simpa using hb
          · subst z2; rw [has_get, z1] at hb; simpa using hb
        rcases hy' with r | ⟨a, ea, g, st⟩
        · exact go y rfl r
        · subst ea
          cases g with
          | dic kd ek pr sc no =>
            cases dx with
            | str z0 =>
              have a1 := hx.str; subst a1
              rcases kd_get (z0 := z0) ek pr sc with ⟨k1, k2⟩ | ⟨d, v1, u1, k1, k2, k3, k4⟩
              · exact op_notIn_kd (by rw [hK, hwd]; exact kd) pins s σ H _ _ v u Q I rx ry ⟨z0, none, rfl, rfl, by rw [hK]; exact no z0 k2, by rw [has_get, k1] at hb; simpa using hb⟩
              · exact op_notIn_kd (by rw [hK, hwd]; exact kd) pins s σ H _ _ v u Q I rx ry ⟨z0, some u1, rfl, rfl, by rw [hK]; exact k2, by rw [has_get, k1] at hb; simpa using hb⟩
            | _ => exact absurd (st _ rfl) (by simp [isStrD])
      · cases e
    | _ => simp at e
end
end Og

end
section
set_option Elab.async false
set_option linter.all false
set_option maxRecDepth 100000
set_option maxHeartbeats 4000000
/-! Subscripts, slices, built-ins by values. -/
namespace Og
open PySem L2
section
variable {X : Cx} {c : Cf} {A : List Addr} {H : Hp} {h h' : Hist}

theorem ixI_of {n : Nat} {i : Int} {k : Nat} (e : ixI n i = some k) : ixN n i = some k := by
  unfold ixI at e
  unfold ixN
  cases i with
  | ofNat j =>
    simp only at e
    split at e
    · rename_i hj
      cases e
      have hj : k < n := by simpa using hj
      show (if (0 : Int) ≤ (k : Int) then if (k : Int) < (n : Int) then some (k : Int).toNat else none else _) = some k
      rw [if_pos (by omega), if_pos (by omega)]; simp
    · cases e
  | negSucc j =>
    simp only at e
    split at e
    · rename_i hj
      cases e
      have hj : j < n := by simpa using hj
      rw [if_neg (by omega), if_pos (by omega)]
      congr 1; omega
    · cases e
theorem nth_get : ∀ {xs : List D} {k : Nat}, nth xs k = xs[k]?
  | [], _ => by simp [nth]
  | _ :: _, 0 => by simp [nth]
  | _ :: r, k + 1 => by simp [nth, nth_get (xs := r)]
theorem subL_of {xs : List D} {vs : List V} {i : Int} {z : D} {f : Fl} (r : RvL c H A vs xs) (e : subL xs i h = .ok z f h') : h' = h ∧ f = .pl ∧ ∃ v, atI vs i = some v ∧ Rv c H A v z := by
  unfold subL at e
  split at e
  · rename_i k hk
    split at e
    · rename_i x hx
      cases e
      obtain ⟨v, h1, h2⟩ := r.get hx
      refine ⟨rfl, rfl, v, ?_, h2⟩
      unfold atI
      rw [r.length, ixI_of hk]
      exact h1
    · cases e
  · cases e

/-- the tail of a subscript of a thing of a built-in type -/
theorem tail_of {prog : Program} {w : World} {A : Around} {E : Value → Shared → Prop} {s₂ : Shared} {value slice : Expr} {T id : String} {o i : Value} {Q : Value → Shared → Prop}
    (hl : typeLookup (.type T) "__getitem__" = pure (some (.builtin id))) (hs : subscripted slice false o i = operate [o, i] (getItem o i)) (hT : s₂.TypeIs o T) (h₂ : wpAny (model prog w) A (getItem o i) Q E s₂) :
    wpAny (model prog w) A (PyProof.Rows.subscriptTail value slice o i) Q E s₂ := by
  unfold PyProof.Rows.subscriptTail
  refine wpAny_bind ?_
  rw [getitemInPython_of_ne hT.not_modules]
  refine wpAny_bind (wpAny_specialOf hT hl ?_)
  have fin : wpAny (model prog w) A (subscripted slice false o i) (fun r s₃ => wpAny (model prog w) A (letTemporaryGo value o r >>= fun _ => pure r) Q E s₃) E s₂ := by
    rw [hs]
    exact wpAny_operating (wpAny_mono h₂ (fun r s₃ h₃ => wpAny_bind (wpAny_letTemporaryGo (wpAny_pure h₃))) fun _ _ x => x)
  first
    | exact wpAny_pure (wpAny_bind fin)
    | exact wpAny_bind (wpAny_pure (wpAny_bind fin))
    | exact wpAny_bind fin

/-- a[i]: the thing, the index -/
def rSb (c : Cf) (A : List Addr) (h : Hist) (dx dy z : D) (f : Fl) (h' : Hist) : R2 := fun x y H Q =>
  Wy c H A x dx dy ∧ Wn c H A y dy ∧ Wd c H A h ∧ ∀ v H', Kp c.bx H H' → Wd c H' A h' → Vl c A H H' v z f → Q v H'
theorem ix_sub {dx dy z : D} {f : Fl} (hK : X.K = c.K) (hwd : X.w = c.w) (hu : X.A.units + 65 < cLine) (e : subV dx dy h = .ok z f h') : IxR X (rSb c A h dx dy z f h') := by
  intro value slice pins s σ H x y v u Q I rx ry ⟨hx, hy, hw, q⟩ hs
  cases dx with
  | list xs =>
    cases dy with
    | int i =>
      simp only [subV] at e
      obtain ⟨a, vs, rfl, ha, ra⟩ := hx.wr.lst
      obtain ⟨rfl, rfl, w, h1, h2⟩ := subL_of ra e
      have a2 := hy.wr.int; subst a2
      exact ix_list value slice pins s σ H _ _ v u Q I rx ry ⟨a, vs, i, w, rfl, rfl, SqL.of ha, h1, q _ _ .refl hw h2⟩ hs
    | _ => simp [subV] at e
  | tuple xs =>
    cases dy with
    | int i =>
      simp only [subV] at e
      obtain ⟨a, vs, rfl, ha, ra⟩ := hx.wr.tup
      obtain ⟨rfl, rfl, w, h1, h2⟩ := subL_of ra e
      have a2 := hy.wr.int; subst a2
      exact ix_tup value slice pins s σ H _ _ v u Q I rx ry ⟨a, vs, i, w, rfl, rfl, by rw [hK]; exact ha, h1, q _ _ .refl hw h2⟩ hs
    | _ => simp [subV] at e
  | dict ds =>
    simp only [subV] at e
    split at e
    · rename_i hk
      split at e
      · rename_i d hd
        cases e
        rcases hx with hn | ⟨a, ea, g, st⟩
        · obtain ⟨a, H2, ov, rfl, I2, back, g, z⟩ := dlook I hn hy hk
          rcases z with ⟨z1, z2⟩ | ⟨d', w, z1, z2, z3⟩
          · rw [hd] at z1; cases z1
          · rw [hd] at z1; cases z1
            subst z2
            cases rx
            exact tail_of PySem.F.slot_dict_getitem.lookup hs (dict_typeIs I2 g) (d_getItem (by omega) I2 g ry fun w' s' I' r' => ⟨w, H, back s' I', r', q _ _ .refl hw z3⟩)
        · subst ea
          cases g with
          | @dic es n zs vs _ kd ek pr sc no =>
            cases dy with
            | str z0 =>
              have a1 := hy.wr.str; subst a1
              rcases kd_get (z0 := z0) ek pr sc with ⟨k1, k2⟩ | ⟨d, v1, u1, k1, k2, k3, k4⟩
              · rw [hd] at k1; cases k1
              · rw [hd] at k1; cases k1
                have kd' : KDict X.K X.w a es n := by rw [hK, hwd]; exact kd
                cases rx
                exact tail_of PySem.F.slot_dict_getitem.lookup hs (kd_type kd' I) (op_item_kd kd' pins s σ H (.ref a) (.str z0) _ u Q I rfl ry ⟨z0, u1, v1, rfl, rfl, by rw [hK]; exact k2, k3, q _ _ .refl hw k4.rv⟩)
            | _ => exact absurd (st _ rfl) (by simp [isStrD])
      · cases e
    · cases e
  | _ => cases dy <;> simp [subV] at e

/-! ### slices -/
theorem clip_ix (n d : Nat) (i : Int) : clip n i = HT.sIx n d (some i) := by
  unfold HT.sIx
  cases i with
  | ofNat k =>
    show min k n = if (k : Int) < 0 then ((k : Int) + n).toNat else min (k : Int).toNat n
    rw [if_neg (by omega)]; simp
  | negSucc k => simp only [clip]; rw [if_pos (by omega)]; omega
theorem cutL_rv {vs : List V} {ds : List D} (r : RvL c H A vs ds) (lo hi : Option Int) : RvL c H A (L2.cutV vs lo hi) (cutL ds lo hi) := by
  have hn := r.length
  unfold L2.cutV cutL
  have e1 : cLo ds.length lo = HT.sIx vs.length 0 lo := by
    cases lo with
    | none => rfl
    | some i => rw [hn]; exact clip_ix _ _ _
  have e2 : cHi ds.length hi = HT.sIx vs.length vs.length hi := by
    cases hi with
    | none => exact hn.symm
    | some i => rw [hn]; exact clip_ix _ _ _
  rw [e1, e2, ← List.drop_take]
  exact (r.take _).drop _
def rSlc (c : Cf) (A : List Addr) (h : Hist) (dx : D) (l u : Option Int) (z : D) (f : Fl) (h' : Hist) : V → Option Int → Option Int → Hp → VK → Prop := fun x lo hi H Q =>
  lo = l ∧ hi = u ∧ Wn c H A x dx ∧ Wd c H A h ∧ ∀ v H', Kp c.bx H H' → Wd c H' A h' → Vl c A H H' v z f → Q v H'
theorem whole_cut {xs : List V} {lo hi : Option Int} (w : HT.sIx xs.length 0 lo = 0 ∧ HT.sIx xs.length xs.length hi = xs.length) : L2.cutV xs lo hi = xs := by
  unfold L2.cutV; rw [w.1, w.2]; simp
theorem sl_cut {dx z : D} {l u : Option Int} {f : Fl} (hK : X.K = c.K) (e : Og.cutV dx l u h = .ok z f h') : SlR X (rSlc c A h dx l u z f h') := by
  intro pins s σ H x v vl vu lo hi sl Q I rx hs pl pu ⟨e1, e2, hx, hw, q⟩
  subst e1 e2
  cases dx with
  | list xs =>
    simp only [Og.cutV] at e
    cases e
    obtain ⟨a, vs, rfl, ha, ra⟩ := hx.wr.lst
    exact sl_list pins s σ H _ v vl vu lo hi sl Q I rx hs pl pu ⟨a, vs, rfl, SqL.of ha, fun p hp => q _ _ (Kp.new hp) (hw.new hp) (vl_newL hw hp (cutL_rv ra lo hi))⟩
  | tuple xs =>
    simp only [Og.cutV] at e
    cases e
    obtain ⟨a, vs, rfl, ha, ra⟩ := hx.tup
    have rc := cutL_rv ra lo hi
    refine sl_tupA pins s σ H _ v vl vu lo hi sl Q I rx hs pl pu ⟨a, vs, rfl, SqT.of ha.1, fun hw' => ?_, fun _ p hp => q _ _ (Kp.new hp) (hw.new hp) (vl_newT hw hp rc)⟩
    rw [whole_cut hw'] at rc
    exact q _ _ .refl hw (Rv.tup ha rc)
  | _ => simp [Og.cutV] at e

/-! ### calls of built-ins -/
def rBl (c : Cf) (A : List Addr) (h : Hist) (ds : List D) (z : D) (f : Fl) (h' : Hist) : List V → Hp → VK → Prop := fun xs H Q =>
  WnL c H A xs ds ∧ Wd c H A h ∧ ∀ v H', Kp c.bx H H' → Wd c H' A h' → Vl c A H H' v z f → Q v H'
theorem kIx {z : D} {f : Fl} {i : Int} {k : Hist} (e : mkI i k = .ok z f h') : z = .int i ∧ f = .pl ∧ h' = k := by
  rw [mkI_eq] at e; cases e; exact ⟨rfl, rfl, rfl⟩
theorem WnL.one {xs : List V} {d : D} (w : WnL c H A xs [d]) : ∃ x, xs = [x] ∧ Wn c H A x d := by
  cases w with
  | cons a b => cases b; exact ⟨_, rfl, a⟩
theorem WnL.two {xs : List V} {d e : D} (w : WnL c H A xs [d, e]) : ∃ x y, xs = [x, y] ∧ Wn c H A x d ∧ Wn c H A y e := by
  cases w with
  | cons a b => cases b with
    | cons a' b' => cases b'; exact ⟨_, _, rfl, a, a'⟩

theorem wn_dict {y : V} {ds : List (D × D)} (hy : Wn c H A y (.dict ds)) : ∃ a, y = .ref a ∧ ((∃ kvs : List (Key × V), L2.Rd H a (.dK kvs) ∧ ds.map (fun p => p.1) = kvs.map (fun p => keyD p.1) ∧ RvL c H A (kvs.map (fun p => p.2)) (ds.map (fun p => p.2))) ∨
      (∃ kvs : List (List Key × V), L2.Rd H a (.dT kvs) ∧ ds.map (fun p => p.1) = kvs.map (fun p => .tuple (p.1.map keyD)) ∧ RvL c H A (kvs.map (fun p => p.2)) (ds.map (fun p => p.2)))) := by
  rcases hy with r | ⟨a, e, n, o⟩
  · cases r with
    | dic h l =>
      rcases h with ⟨kvs, h1, _, h2, h3⟩ | ⟨kvs, h1, _, h2, h3⟩
      · subst h3; exact ⟨_, rfl, .inl ⟨kvs, h1.1, h2, l⟩⟩
      · subst h3; exact ⟨_, rfl, .inr ⟨kvs, h1.1, h2, l⟩⟩
  · refine ⟨a, e, ?_⟩
    cases o with
    | dK e q l => exact .inl ⟨_, .inl e, q, l⟩
    | dT e q l => exact .inr ⟨_, .inl e, q, l⟩
theorem bl_len {as : List D} {z : D} {f : Fl} (hK : X.K = c.K) (e : bltV .len as h = .ok z f h') : CallR X (.builtin "len") (rBl c A h as z f h') := by
  intro pins s σ H xs us Q I r ⟨wl, hw, q⟩
  match as, e with
  | [x], e =>
    obtain ⟨v, rfl, wv⟩ := wl.one
    cases x with
    | list l =>
      simp only [bltV] at e
      obtain ⟨rfl, rfl, rfl⟩ := kIx e
      obtain ⟨a, vs, rfl, ha, ra⟩ := wv.wr.lst
      exact call_len pins s σ H _ us Q I r ⟨_, _, rfl, .inl ⟨vs, SqL.of ha, rfl⟩, by rw [ra.length]; exact q _ _ .refl hw (Rv.int _)⟩
    | tuple l =>
      simp only [bltV] at e
      obtain ⟨rfl, rfl, rfl⟩ := kIx e
      obtain ⟨a, vs, rfl, ha, ra⟩ := wv.tup
      exact call_len pins s σ H _ us Q I r ⟨_, _, rfl, .inr ⟨vs, SqT.of ha.1, rfl⟩, by rw [ra.length]; exact q _ _ .refl hw (Rv.int _)⟩
    | dict l =>
      simp only [bltV] at e
      obtain ⟨rfl, rfl, rfl⟩ := kIx e
      obtain ⟨a, rfl, hd⟩ := wn_dict wv
      rw [Vals.ref1 r]
      rcases hd with ⟨kvs, e1, e2, _⟩ | ⟨kvs, e1, e2, _⟩
      · have hl : l.length = kvs.length := by have := congrArg List.length e2; simpa using this
        refine d_len I e1 fun t s' I' => ⟨.int _, H, I', ⟨t, rfl⟩, ?_⟩
        rw [← hl]
        exact q _ _ .refl hw (Rv.int _)
      · have hl : l.length = kvs.length := by have := congrArg List.length e2; simpa using this
        obtain ⟨z, hd, ys, rel, dd⟩ := dt_rd I.hok e1
        have hl2 : kvs.length = ys.length := Paired.length rel
        refine call_len_dictH hd dd (by rw [← hl2]; rw [sizeLine_eq] at z; omega) ?_
        rw [← hl2, ← hl]
        exact ⟨.int _, H, I.tok _, ⟨_, rfl⟩, q _ _ .refl hw (Rv.int _)⟩
    | _ => simp [bltV] at e
  | [], e => simp [bltV] at e
  | _ :: _ :: _, e => simp [bltV] at e
theorem bl_tuple {as : List D} {z : D} {f : Fl} (hK : X.K = c.K) (e : bltV .tuple as h = .ok z f h') : CallR X (.type "tuple") (rBl c A h as z f h') := by
  intro pins s σ H xs us Q I r ⟨wl, hw, q⟩
  match as, e with
  | [x], e =>
    obtain ⟨v, rfl, wv⟩ := wl.one
    cases x with
    | list l =>
      simp only [bltV] at e
      cases e
      obtain ⟨a, vs, rfl, ha, ra⟩ := wv.wr.lst
      exact call_tuple_of pins s σ H _ us Q I r ⟨_, _, rfl, .inl ⟨SqL.of ha, fun p hp => q _ _ (Kp.new hp) (hw.new hp) (vl_newT hw hp ra)⟩⟩
    | tuple l =>
      simp only [bltV] at e
      cases e
      obtain ⟨a, vs, rfl, ha, ra⟩ := wv.tup
      exact call_tuple_of pins s σ H _ us Q I r ⟨_, _, rfl, .inr ⟨SqT.of ha.1, q _ _ .refl hw (Rv.tup ha ra)⟩⟩
    | _ => simp [bltV] at e
  | [], e => simp [bltV] at e
  | _ :: _ :: _, e => simp [bltV] at e
theorem bl_list {as : List D} {z : D} {f : Fl} (hK : X.K = c.K) (e : bltV .list as h = .ok z f h') : CallR X (.type "list") (rBl c A h as z f h') := by
  intro pins s σ H xs us Q I r ⟨wl, hw, q⟩
  match as, e with
  | [x], e =>
    obtain ⟨v, rfl, wv⟩ := wl.one
    cases x with
    | list l =>
      simp only [bltV] at e
      cases e
      obtain ⟨a, vs, rfl, ha, ra⟩ := wv.wr.lst
      exact call_list_of pins s σ H _ us Q I r ⟨_, _, rfl, .inl (SqL.of ha), fun p hp => q _ _ (Kp.new hp) (hw.new hp) (vl_newL hw hp ra)⟩
    | tuple l =>
      simp only [bltV] at e
      cases e
      obtain ⟨a, vs, rfl, ha, ra⟩ := wv.tup
      exact call_list_of pins s σ H _ us Q I r ⟨_, _, rfl, .inr (SqT.of ha.1), fun p hp => q _ _ (Kp.new hp) (hw.new hp) (vl_newL hw hp ra)⟩
    | _ => simp [bltV] at e
  | [], e => simp [bltV] at e
  | _ :: _ :: _, e => simp [bltV] at e
theorem bl_all {as : List D} {z : D} {f : Fl} (hc : X.calm = true) (e : bltV .all as h = .ok z f h') : CallR X (.builtin "all") (rBl c A h as z f h') := by
  intro pins s σ H xs us Q I r ⟨wl, hw, q⟩
  match as, e with
  | [x], e =>
    obtain ⟨v, rfl, wv⟩ := wl.one
    cases x with
    | list l =>
      simp only [bltV] at e
      split at e
      · rename_i bs hb
        obtain ⟨rfl, rfl, rfl⟩ := kB e
        obtain ⟨a, vs, rfl, ha, ra⟩ := wv.wr.lst
        obtain ⟨h1, h2⟩ := ra.boolsD hb
        subst h1
        exact cr_all hc pins s σ H _ us Q I r ⟨a, bs, rfl, SqL.of ha, q _ _ .refl hw (Rv.bl _)⟩
      · cases e
    | _ => simp [bltV] at e
  | [], e => simp [bltV] at e
  | _ :: _ :: _, e => simp [bltV] at e
theorem bl_any {as : List D} {z : D} {f : Fl} (hc : X.calm = true) (e : bltV .any as h = .ok z f h') : CallR X (.builtin "any") (rBl c A h as z f h') := by
  intro pins s σ H xs us Q I r ⟨wl, hw, q⟩
  match as, e with
  | [x], e =>
    obtain ⟨v, rfl, wv⟩ := wl.one
    cases x with
    | list l =>
      simp only [bltV] at e
      split at e
      · rename_i bs hb
        obtain ⟨rfl, rfl, rfl⟩ := kB e
        obtain ⟨a, vs, rfl, ha, ra⟩ := wv.wr.lst
        obtain ⟨h1, h2⟩ := ra.boolsD hb
        subst h1
        exact cr_any hc pins s σ H _ us Q I r ⟨a, bs, rfl, SqL.of ha, q _ _ .refl hw (Rv.bl _)⟩
      · cases e
    | _ => simp [bltV] at e
  | [], e => simp [bltV] at e
  | _ :: _ :: _, e => simp [bltV] at e
theorem bl_abs {as : List D} {z : D} {f : Fl} (e : bltV .abs as h = .ok z f h') : CallR X (.builtin "abs") (rBl c A h as z f h') := by
  intro pins s σ H xs us Q I r ⟨wl, hw, q⟩
  match as, e with
  | [.int i], e =>
    obtain ⟨v, rfl, wv⟩ := wl.one
    simp only [bltV] at e
    obtain ⟨rfl, rfl, rfl⟩ := kIx e
    have a1 := wv.wr.int; subst a1
    refine call_abs pins s σ H _ us Q I r ⟨i, rfl, ?_⟩
    have := q _ _ .refl hw (Rv.int _)
    rw [ltI_iff] at this
    simpa using this
theorem bl_max2 {as : List D} {z : D} {f : Fl} (hc : X.calm = true) (e : bltV .max2 as h = .ok z f h') : CallR X (.builtin "max") (rBl c A h as z f h') := by
  intro pins s σ H xs us Q I r ⟨wl, hw, q⟩
  match as, e with
  | [.int i, .int j], e =>
    obtain ⟨v, w, rfl, wv, ww⟩ := wl.two
    simp only [bltV] at e
    obtain ⟨rfl, rfl, rfl⟩ := kIx e
    have a1 := wv.wr.int; have a2 := ww.wr.int; subst a1 a2
    refine call_max2 hc pins s σ H _ us Q I r ⟨i, j, rfl, ?_⟩
    have := q _ _ .refl hw (Rv.int _)
    rw [ltI_iff] at this
    simpa using this
theorem bl_min2 {as : List D} {z : D} {f : Fl} (hc : X.calm = true) (e : bltV .min2 as h = .ok z f h') : CallR X (.builtin "min") (rBl c A h as z f h') := by
  intro pins s σ H xs us Q I r ⟨wl, hw, q⟩
  match as, e with
  | [.int i, .int j], e =>
    obtain ⟨v, w, rfl, wv, ww⟩ := wl.two
    simp only [bltV] at e
    obtain ⟨rfl, rfl, rfl⟩ := kIx e
    have a1 := wv.wr.int; have a2 := ww.wr.int; subst a1 a2
    refine call_min2 hc pins s σ H _ us Q I r ⟨i, j, rfl, ?_⟩
    have := q _ _ .refl hw (Rv.int _)
    rw [ltI_iff] at this
    simpa using this
theorem bl_int1 {as : List D} {z : D} {f : Fl} (e : bltV .int1 as h = .ok z f h') : CallR X (.type "int") (rBl c A h as z f h') := by
  intro pins s σ H xs us Q I r ⟨wl, hw, q⟩
  match as, e with
  | [x], e =>
    obtain ⟨v, rfl, wv⟩ := wl.one
    cases x with
    | int i =>
      simp only [bltV] at e
      obtain ⟨rfl, rfl, rfl⟩ := kIx e
      have a1 := wv.wr.int; subst a1
      exact call_int1 pins s σ H _ us Q I r (.inl ⟨i, rfl, q _ _ .refl hw (Rv.int _)⟩)
    | bool b =>
      simp only [bltV] at e
      obtain ⟨rfl, rfl, rfl⟩ := kIx e
      have a1 := wv.wr.bl; subst a1
      exact call_int1 pins s σ H _ us Q I r (.inr ⟨b, rfl, q _ _ .refl hw (Rv.int _)⟩)
    | _ => simp [bltV] at e
  | [], e => simp [bltV] at e
  | _ :: _ :: _, e => simp [bltV] at e
end
end Og

end
section
set_option Elab.async false
set_option linter.all false
set_option maxRecDepth 100000
set_option maxHeartbeats 4000000
/-! sorted of tuples. -/
namespace Og
open PySem PySem.W L2 PyProof.Rows
section
variable {prog : Program} {w : World} {A : Around} {E : Value → Shared → Prop} {s : Shared}
theorem collect_tup {l : Addr} {vs : List Value} {Q : List Value → Shared → Prop} (hl : IsTup s.heap l vs.toArray)
    (h : Q vs { s with heap := (s.heap.push (seqObj "list" #[] 0)).update s.heap.objs.size (Obj.mapSeq (· ++ vs.toArray)) }) (hsz : vs.length ≤ sizeLine) :
    wpAny (model prog w) A (collect (.ref l)) Q E s := by
  obtain ⟨o, ho, hc, n, hd⟩ := id hl
  unfold collect
  refine wpAny_bind (wpAny_runValue (codeAny_builtin entry_proto_collect' ?_))
  show wpAny _ _ (do again (.builtin "list.__iadd__" ⟨[← newList [], .ref l], []⟩)) _ _ s
  refine wpAny_bind (wpAny_newList (wpAny_pure ⟨Code.quiet_builtin _ (by decide +kernel), codeAny_builtin entry_list_iadd' ?_⟩))
  show wpAny _ _ (Builtin.List.listExtendWith (.ref s.heap.objs.size) (.ref l) (.ref s.heap.objs.size)) _ _ { s with heap := s.heap.push (seqObj "list" #[] 0) }
  unfold Builtin.List.listExtendWith
  have ho' : (s.heap.push (seqObj "list" #[] 0)).get? l = some o := Heap.get?_push_of_some _ ho
  refine wpAny_bind (wpAny_typeOf (T := "tuple") ⟨o, ho', hc⟩ ?_)
  have ht : (Value.type "tuple" == Value.type "tuple") = true := by rfl
  rw [if_pos (by rw [ht]; simp)]
  refine wpAny_bind (listItems_at ho' hd ?_)
  refine wpAny_bind (listItems_at (xs := #[]) (n := 0) (Heap.get?_push_size _ rfl) rfl ?_)
  rw [if_neg (by simp)]
  refine wpAny_bind (listUpdate_at (xs := #[]) (n := 0) (Heap.get?_push_size _ rfl) rfl ?_ (Nat.zero_le _) (by show (#[] ++ vs.toArray).size ≤ sizeLine + 1; simp only [Array.size_append, List.size_toArray, List.length_nil]; omega))
  refine wpAny_pure ?_
  show wpAny (model prog w) A (do
      let o ← load s.heap.objs.size
      match o.data with
      | .seq xs _ => pure xs.toList
      | _ => unsupported "internal:collect") Q E { s with heap := (s.heap.push (seqObj "list" #[] 0)).update s.heap.objs.size (Obj.mapSeq (· ++ vs.toArray)) }
  refine wpAny_bind (wpAny_load (get?_update_seq (Heap.get?_push_size _ rfl) _) ?_)
  show wpAny _ _ (pure ((#[] : Array Value) ++ vs.toArray).toList) Q E _
  rw [show ((#[] : Array Value) ++ vs.toArray).toList = vs by simp]
  exact wpAny_pure h
/-- sorted of a list or a tuple -/
theorem sorted_of {x : Value} {vs : List Value} {ltv : Value → Value → Bool} {Q : Value → Shared → Prop} (O : SrtO.Swo ltv) (hz : vs.length ≤ sizeLine)
    (hcol : ∀ (A : Around) (Q : List Value → Shared → Prop), Q vs { s with heap := (s.heap.push (seqObj "list" #[] 0)).update s.heap.objs.size (Obj.mapSeq (· ++ vs.toArray)) } → wpAny (model prog w) A (collect x) Q E s)
    (hS : 2 ≤ vs.length → ∀ (h₁ : Heap) (a : Addr), h₁.get? a = some (seqObj "list" vs.toArray 0) → (∀ b o, s.heap.get? b = some o → b ≠ a ∧ h₁.get? b = some o) → SrtO.SortableO prog w A.in1.in1 { s with heap := h₁ } a vs ltv)
    (h : ∀ out : List Value, SrtO.Srtd ltv out → SrtO.Stb ltv out vs → Q (.ref (s.heap.objs.size + 1)) { s with heap := sortedAll s.heap vs out.toArray }) :
    wpAny (model prog w) A (call (.builtin "sorted") [x]) Q E s := by
  refine Calls.call_function_entry kind_sorted plain_sorted entry_sorted (args_sorted1 _) ?_
  unfold Builtin.«sorted»
  refine wpAny_bind (m := checkCount "sorted" 1 1 _) (wpAny_pure ?_)
  refine wpAny_bind (hcol _ _ ?_)
  refine wpAny_bind (wpAny_newList ?_ hz)
  have hsz : ((s.heap.push (seqObj "list" #[] 0)).update s.heap.objs.size (Obj.mapSeq (· ++ vs.toArray))).objs.size = s.heap.objs.size + 1 := by
    rw [Heap.size_update, size_push']
  have hoL : (((s.heap.push (seqObj "list" #[] 0)).update s.heap.objs.size (Obj.mapSeq (· ++ vs.toArray))).push (seqObj "list" vs.toArray 0)).get? (s.heap.objs.size + 1) = some (seqObj "list" vs.toArray 0) := by
    rw [← hsz]; exact Heap.get?_push_size _ rfl
  have keep : ∀ b o, s.heap.get? b = some o → b ≠ s.heap.objs.size + 1 ∧ (((s.heap.push (seqObj "list" #[] 0)).update s.heap.objs.size (Obj.mapSeq (· ++ vs.toArray))).push (seqObj "list" vs.toArray 0)).get? b = some o := fun b o q => by
    have hlt : b < s.heap.objs.size := Heap.lt_size q
    refine ⟨Nat.ne_of_lt (Nat.lt_succ_of_lt hlt), Heap.get?_push_of_some _ ?_⟩
    rw [Heap.get?_update_ne _ _ _ _ (Nat.ne_of_lt hlt)]
    exact Heap.get?_push_of_some _ q
  show wpAny _ _ _ _ _ { s with heap := ((s.heap.push (seqObj "list" #[] 0)).update s.heap.objs.size (Obj.mapSeq (· ++ vs.toArray))).push (seqObj "list" vs.toArray 0) }
  rw [hsz]
  refine wpAny_bind (wpAny_holding (wpAny_call_entry slot_list_sort ⟨_, hoL, rfl⟩ entry_list_sort (SrtO.list_sort_ord O hoL hz (fun h2 => hS h2 _ _ hoL keep) fun out hs hb => ⟨_, rfl, ?_⟩) (args_list_sort _)))
  exact wpAny_pure ⟨_, rfl, h out hs hb⟩
end
mutual
theorem alk_alike : ∀ (x y : D), alkD x y = true → alike x y = true
  | .int _, .int _, _ => by simp [alike]
  | .str _, .str _, _ => by simp [alike]
  | .tuple xs, .tuple ys, h => by
    simp only [alkD] at h
    simp only [alike]
    exact alkL_alike xs ys h
  | .none, y, h => by cases y <;> simp [alkD] at h
  | .bool _, y, h => by cases y <;> simp [alkD] at h
  | .list _, y, h => by cases y <;> simp [alkD] at h
  | .dict _, y, h => by cases y <;> simp [alkD] at h
  | .int _, .none, h => by simp [alkD] at h
  | .int _, .bool _, h => by simp [alkD] at h
  | .int _, .str _, h => by simp [alkD] at h
  | .int _, .list _, h => by simp [alkD] at h
  | .int _, .tuple _, h => by simp [alkD] at h
  | .int _, .dict _, h => by simp [alkD] at h
  | .str _, .none, h => by simp [alkD] at h
  | .str _, .bool _, h => by simp [alkD] at h
  | .str _, .int _, h => by simp [alkD] at h
  | .str _, .list _, h => by simp [alkD] at h
  | .str _, .tuple _, h => by simp [alkD] at h
  | .str _, .dict _, h => by simp [alkD] at h
  | .tuple _, .none, h => by simp [alkD] at h
  | .tuple _, .bool _, h => by simp [alkD] at h
  | .tuple _, .int _, h => by simp [alkD] at h
  | .tuple _, .str _, h => by simp [alkD] at h
  | .tuple _, .list _, h => by simp [alkD] at h
  | .tuple _, .dict _, h => by simp [alkD] at h
theorem alkL_alike : ∀ (xs ys : List D), alkL xs ys = true → alikeAll xs ys = true
  | [], _, _ => by simp [alikeAll]
  | _ :: _, [], _ => by simp [alikeAll]
  | x :: xs, y :: ys, h => by
    simp only [alkL, Bool.and_eq_true] at h
    simp only [alikeAll, Bool.and_eq_true]
    exact ⟨alk_alike x y h.1, alkL_alike xs ys h.2⟩
end
theorem alk_inv {x y : D} (h : alkD x y = true) : (∃ i j, x = .int i ∧ y = .int j) ∨ (∃ i j, x = .str i ∧ y = .str j) ∨ (∃ xs ys, x = .tuple xs ∧ y = .tuple ys ∧ alkL xs ys = true) := by
  cases x <;> cases y <;> simp [alkD] at h
  · exact .inl ⟨_, _, rfl, rfl⟩
  · exact .inr (.inl ⟨_, _, rfl, rfl⟩)
  · exact .inr (.inr ⟨_, _, rfl, rfl, h⟩)
mutual
theorem alk_symm : ∀ (x y : D), alkD x y = true → alkD y x = true := by
  intro x
  cases x with
  | tuple xs => intro y h; cases y <;> simp [alkD] at h ⊢; exact alkL_symm xs _ h
  | int i => intro y h; cases y <;> simp [alkD] at h ⊢
  | str i => intro y h; cases y <;> simp [alkD] at h ⊢
  | none => intro y h; cases y <;> simp [alkD] at h
  | bool b => intro y h; cases y <;> simp [alkD] at h
  | list b => intro y h; cases y <;> simp [alkD] at h
  | dict b => intro y h; cases y <;> simp [alkD] at h
theorem alkL_symm : ∀ (xs ys : List D), alkL xs ys = true → alkL ys xs = true := by
  intro xs
  cases xs with
  | nil => intro ys h; cases ys <;> simp [alkL]
  | cons x xs =>
    intro ys h
    cases ys with
    | nil => simp [alkL]
    | cons y ys =>
      simp only [alkL, Bool.and_eq_true] at h ⊢
      exact ⟨alk_symm x y h.1, alkL_symm xs ys h.2⟩
end
theorem eqv_self_int (i : Int) : PyData.eqv (.int i) (.int i) = true := by simp [PyData.eqv]
theorem eqv_str {x y : Str} : PyData.eqv (.str x) (.str y) = decide (x = y) := by
  simp only [PyData.eqv]
  by_cases h : x = y
  · subst h; simp
  · simp [h]
mutual
theorem eqv_refl : ∀ (x : D), alkD x x = true → PyData.eqv x x = true := by
  intro x
  cases x with
  | tuple xs =>
    intro h
    simp only [alkD] at h
    simp only [PyData.eqv]
    exact eqvL_refl xs h
  | int i => intro _; simp [PyData.eqv]
  | str i => intro _; simp [PyData.eqv]
  | none => intro h; simp [alkD] at h
  | bool b => intro h; simp [alkD] at h
  | list b => intro h; simp [alkD] at h
  | dict b => intro h; simp [alkD] at h
theorem eqvL_refl : ∀ (xs : List D), alkL xs xs = true → PyData.eqvAll xs xs = true := by
  intro xs
  cases xs with
  | nil => intro h; simp [PyData.eqvAll]
  | cons x xs =>
    intro h
    simp only [alkL, Bool.and_eq_true] at h
    rw [eqv_all_cons, eqv_refl x h.1, eqvL_refl xs h.2]; rfl
end
mutual
theorem alk_eqv : ∀ (x y : D), alkD x y = true → PyData.eqv x y = true → x = y := by
  intro x
  cases x with
  | tuple xs =>
    intro y h e
    cases y <;> simp only [alkD] at h <;> try (cases h; done)
    simp only [PyData.eqv] at e
    rw [alkL_eqv xs _ h e]
  | int i => intro y h e; cases y <;> simp only [alkD] at h <;> try (cases h; done)
             simpa [PyData.eqv] using e
  | str i => intro y h e; cases y <;> simp only [alkD] at h <;> try (cases h; done)
             simpa [PyData.eqv] using e
  | none => intro y h; cases y <;> simp [alkD] at h
  | bool b => intro y h; cases y <;> simp [alkD] at h
  | list b => intro y h; cases y <;> simp [alkD] at h
  | dict b => intro y h; cases y <;> simp [alkD] at h
theorem alkL_eqv : ∀ (xs ys : List D), alkL xs ys = true → PyData.eqvAll xs ys = true → xs = ys := by
  intro xs
  cases xs with
  | nil => intro ys h e; cases ys <;> simp [PyData.eqvAll] at e ⊢
  | cons x xs =>
    intro ys h e
    cases ys with
    | nil => simp [PyData.eqvAll] at e
    | cons y ys =>
      simp only [alkL, Bool.and_eq_true] at h
      rw [eqv_all_cons, Bool.and_eq_true] at e
      rw [alk_eqv x y h.1 e.1, alkL_eqv xs ys h.2 e.2]
end
theorem ltN_lt : ∀ (a b : List Nat), ltN a b = decide (a < b)
  | [], [] => by simp [ltN]
  | [], _ :: _ => by simp [ltN]
  | _ :: _, [] => by simp [ltN]
  | a :: r, b :: t => by
    simp only [ltN]
    split
    · rename_i h
      have h : a = b := by simpa using h
      subst h
      rw [ltN_lt r t]
      simp [List.cons_lt_cons_iff]
    · rename_i h
      have h : a ≠ b := Nat.ne_of_beq_eq_false h
      have e : Nat.blt a b = decide (a < b) := by
        cases hb : Nat.blt a b
        · have : ¬ a < b := fun q => by
            have q := Nat.blt_eq.mpr q
            rw [hb] at q; cases q
          simp [this]
        · have : a < b := by simpa using hb
          simp [this]
      rw [e]
      simp [List.cons_lt_cons_iff, h]
theorem lex_false2 {a b : List (Int ⊕ List Nat)} (h : a = b) : lexLt itemOrd a b = false := by rw [h]; exact lex_irrefl _
mutual
theorem ltDD_eq : ∀ (x y : D), alkD x y = true → ltDD x y = dataLt x y := by
  intro x
  cases x with
  | tuple xs =>
    intro y h
    cases y <;> simp only [alkD] at h <;> try (cases h; done)
    simp only [ltDD]
    rw [ltDL_eq xs _ h]
    simp only [dataLt, keyToks]
  | int i =>
    intro y h
    cases y <;> simp only [alkD] at h <;> try (cases h; done)
    rw [dataLt_int]
    simp only [ltDD, ltI_iff]
  | str i =>
    intro y h
    cases y <;> simp only [alkD] at h <;> try (cases h; done)
    rw [dataLt_str]
    simp only [ltDD, cps, ltN_lt]
  | none => intro y h; cases y <;> simp [alkD] at h
  | bool b => intro y h; cases y <;> simp [alkD] at h
  | list b => intro y h; cases y <;> simp [alkD] at h
  | dict b => intro y h; cases y <;> simp [alkD] at h
theorem ltDL_eq : ∀ (xs ys : List D), alkL xs ys = true → ltDL xs ys = lexLt itemOrd (keyToksAll xs) (keyToksAll ys) := by
  intro xs
  cases xs with
  | nil =>
    intro ys h
    cases ys with
    | nil => simp [ltDL, lex_irrefl]
    | cons y ys =>
      rw [toks_all_cons]
      simp only [keyToksAll, ltDL]
      rw [lex_diff (O := itemOrd) (by simp)]
      simp [itemLt]
  | cons x xs =>
    intro ys h
    cases ys with
    | nil =>
      rw [toks_all_cons]
      simp only [keyToksAll, ltDL]
      rw [lex_diff (O := itemOrd) (by simp)]
      simp [itemLt]
    | cons y ys =>
      simp only [alkL, Bool.and_eq_true] at h
      simp only [ltDL]
      split
      · rename_i e
        rw [dataLt_all_yes (alk_alike x y h.1) e, ltDL_eq xs ys h.2]
      · rename_i e
        rw [dataLt_all_no (alk_alike x y h.1) e, ltDD_eq x y h.1]
end
theorem cmpTs_lex : ∀ {xs ys : List D} {r : Bool}, cmpTs xs ys = some r → r = lexLt itemOrd (keyToksAll xs) (keyToksAll ys)
  | [], [], r, h => by simp [cmpTs] at h; subst h; rw [lex_irrefl]
  | [], y :: ys, r, h => by
    simp [cmpTs] at h; subst h
    rw [toks_all_cons]
    simp only [keyToksAll]
    rw [lex_diff (O := itemOrd) (by simp)]
    simp [itemLt]
  | x :: xs, [], r, h => by
    simp [cmpTs] at h; subst h
    rw [toks_all_cons]
    simp only [keyToksAll]
    rw [lex_diff (O := itemOrd) (by simp)]
    simp [itemLt]
  | x :: xs, y :: ys, r, h => by
    simp only [cmpTs] at h
    split at h
    · rename_i ha
      split at h
      · rename_i e
        rw [dataLt_all_yes (alk_alike x y ha) e]
        exact cmpTs_lex h
      · rename_i e
        cases h
        rw [dataLt_all_no (alk_alike x y ha) e, ltDD_eq x y ha]
    · cases h
/-! signs tell the data -/
theorem app_tok {x y : D} (ha : alkD x y = true) (IH : keyToks x = keyToks y → x = y) {l m : List (Int ⊕ List Nat)} (h : keyToks x ++ l = keyToks y ++ m) : x = y := by
  cases e : PyData.eqv x y with
  | true => exact alk_eqv x y ha e
  | false =>
    have h1 := (toks_eqv x y (alk_alike x y ha)).2 e l m
    have ha' := alk_symm x y ha
    have e' : PyData.eqv y x = false := by
      cases e2 : PyData.eqv y x with
      | false => rfl
      | true =>
        have := alk_eqv y x ha' e2
        subst this
        rw [e] at e2; cases e2
    have h2 := (toks_eqv y x (alk_alike y x ha')).2 e' m l
    rw [h, lex_irrefl] at h1
    rw [h, lex_irrefl] at h2
    exact IH (lex_total _ _ h1.symm h2.symm)
mutual
theorem alk_toks : ∀ (x y : D), alkD x y = true → keyToks x = keyToks y → x = y := by
  intro x
  cases x with
  | tuple xs =>
    intro y h e
    cases y <;> simp only [alkD] at h <;> try (cases h; done)
    simp only [keyToks] at e
    rw [alkL_toks xs _ h e]
  | int i =>
    intro y h e
    cases y <;> simp only [alkD] at h <;> try (cases h; done)
    simp only [keyToks, List.cons.injEq, Sum.inl.injEq, and_true] at e
    rw [e]
  | str i =>
    intro y h e
    cases y <;> simp only [alkD] at h <;> try (cases h; done)
    simp only [keyToks, List.cons.injEq, Sum.inr.injEq, and_true] at e
    rw [str_of_cps e]
  | none => intro y h; cases y <;> simp [alkD] at h
  | bool b => intro y h; cases y <;> simp [alkD] at h
  | list b => intro y h; cases y <;> simp [alkD] at h
  | dict b => intro y h; cases y <;> simp [alkD] at h
theorem alkL_toks : ∀ (xs ys : List D), alkL xs ys = true → keyToksAll xs = keyToksAll ys → xs = ys := by
  intro xs
  cases xs with
  | nil =>
    intro ys h e
    cases ys with
    | nil => rfl
    | cons y ys => rw [toks_all_cons] at e; simp [keyToksAll] at e
  | cons x xs =>
    intro ys h e
    cases ys with
    | nil => rw [toks_all_cons] at e; simp [keyToksAll] at e
    | cons y ys =>
      simp only [alkL, Bool.and_eq_true] at h
      rw [toks_all_cons, toks_all_cons] at e
      have e := (List.cons.inj e).2
      have hxy := app_tok h.1 (alk_toks x y h.1) e
      subst hxy
      rw [alkL_toks xs ys h.2 (List.append_cancel_left e)]
end
theorem cmpTs_toks : ∀ {xs ys : List D} {r : Bool}, cmpTs xs ys = some r → keyToksAll xs = keyToksAll ys → xs = ys
  | [], [], _, _, _ => rfl
  | [], y :: ys, _, _, e => by rw [toks_all_cons] at e; simp [keyToksAll] at e
  | x :: xs, [], _, _, e => by rw [toks_all_cons] at e; simp [keyToksAll] at e
  | x :: xs, y :: ys, r, h, e => by
    simp only [cmpTs] at h
    split at h
    · rename_i ha
      rw [toks_all_cons, toks_all_cons] at e
      have e := (List.cons.inj e).2
      have hxy := app_tok ha (alk_toks x y ha) e
      subst hxy
      rw [eqv_refl x ha] at h
      rw [cmpTs_toks h (List.append_cancel_left e)]
    · cases h
theorem cmpD_inv {x y : D} {r : Bool} (h : cmpD x y = some r) : ∃ a xs b ys, x = .tuple (a :: xs) ∧ y = .tuple (b :: ys) ∧ cmpTs (a :: xs) (b :: ys) = some r := by
  unfold cmpD at h
  split at h
  · exact ⟨_, _, _, _, rfl, rfl, h⟩
  · cases h
theorem cmpD_lt {x y : D} {r : Bool} (h : cmpD x y = some r) : r = dataLt x y := by
  obtain ⟨a, xs, b, ys, rfl, rfl, h⟩ := cmpD_inv h
  rw [cmpTs_lex h]
  simp only [dataLt, keyToks]
theorem cmpD_eq {x y : D} {r : Bool} (h : cmpD x y = some r) (e : keyToks x = keyToks y) : x = y := by
  obtain ⟨a, xs, b, ys, rfl, rfl, h⟩ := cmpD_inv h
  simp only [keyToks] at e
  rw [cmpTs_toks h e]
theorem someB_ok {o : Option Bool} (h : someB o = true) : ∃ b, o = some b := by
  cases o with
  | none => cases h
  | some b => exact ⟨b, rfl⟩
theorem allCmp_mem : ∀ {l : List D}, allCmp l = true → ∀ x ∈ l, ∀ y ∈ l, ∃ b, cmpD x y = some b
  | [], _, _, h, _, _ => nomatch h
  | z :: r, h, x, hx, y, hy => by
    simp only [allCmp, Bool.and_eq_true, List.all_eq_true] at h
    obtain ⟨_, h1, h2, h3⟩ := h
    rcases List.mem_cons.mp hx with e | hx
    · rw [e]
      rcases List.mem_cons.mp hy with e | hy
      · rw [e]; exact someB_ok h1
      · exact someB_ok (h2 y hy).1
    · rcases List.mem_cons.mp hy with e | hy
      · rw [e]; exact someB_ok (h2 x hx).2
      · exact allCmp_mem h3 x hx y hy
theorem allCmp_dep : ∀ {l : List D}, allCmp l = true → ∀ x ∈ l, x.depth ≤ 60
  | [], _, _, h => nomatch h
  | z :: r, h, x, hx => by
    simp only [allCmp, Bool.and_eq_true] at h
    rcases List.mem_cons.mp hx with rfl | hx
    · exact Nat.le_of_ble_eq_true h.1.2
    · exact allCmp_dep h.2.2.2 x hx
theorem allCmp_lay : ∀ {l : List D}, allCmp l = true → ∀ x ∈ l, x.canLay0 = true
  | [], _, _, h => nomatch h
  | z :: r, h, x, hx => by
    simp only [allCmp, Bool.and_eq_true] at h
    rcases List.mem_cons.mp hx with rfl | hx
    · exact h.1.1
    · exact allCmp_lay h.2.2.2 x hx
theorem insT_perm (x : D) : ∀ l : List D, (insT x l).Perm (x :: l)
  | [] => .refl _
  | y :: r => by
    simp only [insT]
    split
    · exact ((insT_perm x r).cons y).trans (.swap x y r)
    · exact .refl _
theorem srtL_perm : ∀ l : List D, (srtL l).Perm l
  | [] => .refl _
  | x :: r => (insT_perm x (srtL r)).trans ((srtL_perm r).cons x)
theorem dl_irr (x : D) : dataLt x x = false := lex_irrefl _
theorem dl_neg {x y z : D} (h1 : dataLt y x = false) (h2 : dataLt z y = false) : dataLt z x = false := by
  cases h : dataLt z x with
  | false => rfl
  | true =>
    rcases lex_negTrans (O := itemOrd) _ (keyToks y) _ h with h | h
    · rw [show dataLt z y = true from h] at h2; cases h2
    · rw [show dataLt y x = true from h] at h1; cases h1
theorem dl_asym {x y : D} (h : dataLt x y = true) : dataLt y x = false := by
  cases h2 : dataLt y x with
  | false => rfl
  | true =>
    have := lex_trans (O := itemOrd) _ _ _ h h2
    rw [lex_irrefl] at this; cases this
theorem insT_sorted (x : D) : ∀ l : List D, (∀ y ∈ l, ∃ b, cmpD y x = some b) → l.Pairwise (fun a b => dataLt b a = false) → (insT x l).Pairwise (fun a b => dataLt b a = false)
  | [], _, _ => by simp [insT]
  | y :: r, hc, h => by
    rw [List.pairwise_cons] at h
    obtain ⟨b, hb⟩ := hc y (by simp)
    have hbe := cmpD_lt hb
    simp only [insT]
    split
    · rename_i e
      rw [hb] at e
      cases e
      rw [List.pairwise_cons]
      refine ⟨fun z hz => ?_, insT_sorted x r (fun z hz => hc z (by simp [hz])) h.2⟩
      rcases List.mem_cons.mp ((insT_perm x r).mem_iff.mp hz) with rfl | hz
      · exact dl_asym hbe.symm
      · exact h.1 z hz
    · rename_i e
      have hf : dataLt y x = false := by
        rw [← hbe]
        cases b with
        | true => exact absurd hb e
        | false => rfl
      rw [List.pairwise_cons]
      refine ⟨fun z hz => ?_, List.pairwise_cons.mpr h⟩
      rcases List.mem_cons.mp hz with rfl | hz
      · exact hf
      · exact dl_neg hf (h.1 z hz)
theorem srtL_sorted : ∀ {l : List D}, allCmp l = true → (srtL l).Pairwise (fun a b => dataLt b a = false)
  | [], _ => .nil
  | x :: r, h => by
    have h2 := h
    simp only [allCmp, Bool.and_eq_true] at h2
    refine insT_sorted x _ (fun y hy => allCmp_mem h y (List.mem_cons_of_mem _ ((srtL_perm r).mem_iff.mp hy)) x (by simp)) (srtL_sorted h2.2.2.2)
theorem srtL_eq {l m : List D} (hc : allCmp l = true) (p : m.Perm l) (s : m.Pairwise (fun a b => dataLt b a = false)) : m = srtL l :=
  (p.trans (srtL_perm l).symm).eq_of_pairwise (fun x y hx hy h1 h2 => by
    obtain ⟨b, hb⟩ := allCmp_mem hc x (p.mem_iff.mp hx) y ((srtL_perm l).mem_iff.mp hy)
    exact cmpD_eq hb (lex_total _ _ h2 h1)) s (srtL_sorted hc)
end Og
namespace Og
open PySem PySem.W L2 PyProof.Rows
section
variable {prog : Program} {w : World} {A : Around} {E : Value → Shared → Prop} {s : Shared}
theorem dA_head {x : D} {xs : List D} {n : Nat} (h : PyData.depthAll (x :: xs) ≤ n) : x.depth ≤ n ∧ PyData.depthAll xs ≤ n := by
  simp only [PyData.depthAll] at h
  omega
theorem katLex_cmp {b fin : Bool} {Q : Bool → Shared → Prop} (hu : A.units + 61 < cLine) : ∀ (xs ys : List D) (i : Nat) (vs ws : List Value) (as bs : List Addr) (r : Bool), ReadsAll s.heap vs xs as → ReadsAll s.heap ws ys bs → cmpTs xs ys = some r →
    PyData.depthAll xs ≤ 60 → PyData.depthAll ys ≤ 60 → (b = true → i = 0 → ∀ x r t, xs = x :: r → x ≠ .tuple t) → fin = decide (xs.length < ys.length) → Q r s → KatLex prog w A b fin Q (vs.zip ws) i s
  | [], [], i, _, _, _, _, r, ra, rb, h, _, _, _, hf, hq => by
    cases ra
    cases rb
    simp [cmpTs] at h
    subst h
    have e : fin = false := by rw [hf]; rfl
    subst e
    exact kat_nil hq
  | [], y :: ys, i, _, _, _, _, r, ra, rb, h, _, _, _, hf, hq => by
    cases ra
    simp [cmpTs] at h
    subst h
    have e : fin = true := by rw [hf]; exact decide_eq_true (Nat.succ_pos _)
    subst e
    rw [List.zip_nil_left]
    exact kat_nil hq
  | x :: xs, [], i, _, _, _, _, r, ra, rb, h, _, _, _, hf, hq => by
    cases rb
    simp [cmpTs] at h
    subst h
    have e : fin = false := by rw [hf]; exact decide_eq_false (Nat.not_lt_zero _)
    subst e
    rw [List.zip_nil_right]
    exact kat_nil hq
  | x :: xs, y :: ys, i, _, _, _, _, r, ra, rb, h, d1, d2, hb, hf, hq => by
    simp only [cmpTs] at h
    split at h
    rotate_left
    · cases h
    rename_i ha
    have h1 := alk_alike x y ha
    have hf' : fin = decide (xs.length < ys.length) := by
      rw [hf]
      simp only [List.length_cons, Nat.add_lt_add_iff_right]
    obtain ⟨d1a, d1b⟩ := dA_head d1
    obtain ⟨d2a, d2b⟩ := dA_head d2
    have hroom : A.units + min x.depth y.depth < cLine := by omega
    cases ra with
    | cons r1 rs =>
      cases rb with
      | cons r' rs' =>
        rw [List.zip_cons_cons]
        refine kat_cons (eqAt_alike x y A s _ _ _ _ r1 r' h1 hroom prog w _ _ ?_)
        cases hx : PyData.eqv x y with
        | true =>
          rw [hx] at h
          exact kat_yes (katLex_cmp hu xs ys (i + 1) _ _ _ _ r rs rs' h d1b d2b (fun _ hi => absurd hi (Nat.succ_ne_zero i)) hf' hq)
        | false =>
          rw [hx] at h
          cases h
          rw [ltDD_eq x y ha] at hq
          refine kat_no (oneLt_alike (fun hbi t => ?_) r1 r' h1 (ne_none_of h1 hx) hroom hq)
          rw [Bool.and_eq_true] at hbi
          exact hb hbi.1 (by simpa using hbi.2) x xs t rfl
def tyD : D → String
  | .int _ => "int"
  | .str _ => "str"
  | _ => "tuple"
theorem alk_ty {x y : D} (h : alkD x y = true) : tyD y = tyD x := by
  rcases alk_inv h with ⟨_, _, rfl, rfl⟩ | ⟨_, _, rfl, rfl⟩ | ⟨_, _, rfl, rfl, _⟩ <;> rfl
theorem looks_ty {M : Model} {h : Heap} {v : Value} {d : D} {as : List Addr} (r : Reads h v d as) (ha : alkD d d = true) : Looks M h (typeOf v) (.type (tyD d)) := by
  cases r with
  | int i t => exact Looks.now
  | str i t => exact Looks.now
  | tuple ho hc hd hr =>
    have : Looks M h (typeOf (.ref _)) _ := (Looks.ld ho).andThen .now
    rw [hc] at this
    exact this
  | _ => simp [alkD] at ha
/-- values that read as tuples, not empty -/
inductive TRs (h : Heap) : List Value → List D → Prop
  | nil : TRs h [] []
  | cons {v : Value} {vs : List Value} {x : D} {xs : List D} {ds : List D} {as : List Addr} : Reads h v (.tuple (x :: xs)) as → TRs h vs ds → TRs h (v :: vs) (.tuple (x :: xs) :: ds)
theorem TRs.keeps {h h' : Heap} (k : ∀ b o, h.get? b = some o → h'.get? b = some o) : ∀ {vs : List Value} {ds : List D}, TRs h vs ds → TRs h' vs ds
  | _, _, .nil => .nil
  | _, _, .cons r t => .cons (PyProof.Rows.Reads.keeps k r) (t.keeps k)
theorem TRs.firsts {h : Heap} : ∀ {vs : List Value} {ds : List D}, TRs h vs ds → ∃ fs, KatTups h vs fs ∧ fs.length = vs.length ∧ ∀ f ∈ fs, ∃ x xs as, .tuple (x :: xs) ∈ ds ∧ Reads h f x as
  | _, _, .nil => ⟨[], trivial, rfl, fun _ q => nomatch q⟩
  | _, _, .cons (x := x) (xs := xs) r t => by
    obtain ⟨fs, k1, k2, k3⟩ := t.firsts
    cases r with
    | tuple ho hc hd hr =>
      rename_i oo its n
      cases hits : its.toList with
      | nil => rw [hits] at hr; cases hr
      | cons f r =>
        rw [hits] at hr
        cases hr with
        | cons q1 q2 =>
          refine ⟨f :: fs, KatTups.cons ho hc hd (by rw [← Array.getElem?_toList, hits]; rfl) k1, by simp [k2], fun g hg => ?_⟩
          rcases List.mem_cons.mp hg with rfl | hg
          · exact ⟨x, xs, _, by simp, q1⟩
          · obtain ⟨y, ys, as, m, r⟩ := k3 g hg
            exact ⟨y, ys, as, by simp [m], r⟩
theorem TRs.get {h : Heap} : ∀ {vs : List Value} {ds : List D}, TRs h vs ds → ∀ v ∈ vs, ∃ x xs as, .tuple (x :: xs) ∈ ds ∧ Reads h v (.tuple (x :: xs)) as
  | _, _, .nil, _, q => nomatch q
  | _, _, .cons r t, v, hv => by
    rcases List.mem_cons.mp hv with rfl | hv
    · exact ⟨_, _, _, by simp, r⟩
    · obtain ⟨y, ys, as, m, r⟩ := t.get v hv
      exact ⟨y, ys, as, by simp [m], r⟩
theorem swo_data (k : Value → D) : SrtO.Swo fun v u => dataLt (k v) (k u) := ⟨fun x y h => dl_asym h, fun x y z h1 h2 => dl_neg h1 h2⟩
theorem cmp_head {x y : D} {xs ys : List D} {r : Bool} (h : cmpTs (x :: xs) (y :: ys) = some r) : alkD x y = true := by
  simp only [cmpTs] at h
  split at h
  · rename_i ha; exact ha
  · cases h
theorem sortable_mix {vs : List Value} {ds : List D} {a : Addr} (k : Value → D) (hu : A.units + 61 < cLine) (h2 : 2 ≤ vs.length) (hc : allCmp ds = true) (h0 : Heap) (t : TRs h0 vs ds) (hk : ∀ v ∈ vs, ∀ x xs as, .tuple (x :: xs) ∈ ds → Reads h0 v (.tuple (x :: xs)) as → k v = .tuple (x :: xs))
    (keep : ∀ b o, h0.get? b = some o → b ≠ a ∧ s.heap.get? b = some o) : SrtO.SortableO prog w A s a vs fun v u => dataLt (k v) (k u) := by
  intro h' keep'
  have t' : TRs h' vs ds := t.keeps fun b o e => keep' b o (keep b o e).1 (keep b o e).2
  obtain ⟨fs, k1, k2, k3⟩ := t'.firsts
  obtain ⟨f0, hf0⟩ : ∃ f0, f0 ∈ fs := by
    cases fs with
    | nil => simp at k2; omega
    | cons f r => exact ⟨f, by simp⟩
  obtain ⟨x0, xs0, as0, m0, r0⟩ := k3 f0 hf0
  refine ⟨tuples' (Value.type (tyD x0) != Value.type "tuple"), fun Q E hq => ?_, fun p q hp hq => ?_⟩
  · refine kat_kind (T := .type (tyD x0)) k1 (by omega) (fun f hf => ?_) (by simp) hq
    obtain ⟨y, ys, bs, m, r⟩ := k3 f hf
    obtain ⟨b, hb⟩ := allCmp_mem hc _ m0 _ m
    obtain ⟨b', hb'⟩ := allCmp_mem hc _ m _ m
    have e1 := alk_ty (cmp_head (show cmpTs (x0 :: xs0) (y :: ys) = some b from hb))
    have e2 := cmp_head (show cmpTs (y :: ys) (y :: ys) = some b' from hb')
    rw [← e1]
    exact looks_ty r e2
  · obtain ⟨x, xs, as, mx, rx⟩ := t.get _ hp
    obtain ⟨y, ys, bs, my, ry⟩ := t.get _ hq
    have ex := hk _ hp _ _ _ mx rx
    have ey := hk _ hq _ _ _ my ry
    have kp : ∀ b o, h0.get? b = some o → h'.get? b = some o := fun b o e => keep' b o (keep b o e).1 (keep b o e).2
    have rx' := PyProof.Rows.Reads.keeps kp rx
    have ry' := PyProof.Rows.Reads.keeps kp ry
    obtain ⟨b, hb⟩ := allCmp_mem hc _ mx _ my
    have hlt := cmpD_lt hb
    have hb1 : cmpTs (x :: xs) (y :: ys) = some b := hb
    have dx := allCmp_dep hc _ mx
    have dy := allCmp_dep hc _ my
    simp only [PyData.depth] at dx dy
    show wpAny _ _ (keyLt' _ p.1 q.1) (fun r s' => s' = { s with heap := h' } ∧ r = dataLt (k p.1) (k q.1)) _ _
    rw [ex, ey, ← hlt]
    obtain ⟨b0, hb0⟩ := allCmp_mem hc _ m0 _ mx
    have e1 := alk_ty (cmp_head (show cmpTs (x0 :: xs0) (x :: xs) = some b0 from hb0))
    generalize p.1 = pv at rx'
    generalize q.1 = qv at ry'
    cases rx' with
    | tuple ho hcl hd hr =>
      cases ry' with
      | tuple ho2 hcl2 hd2 hr2 =>
        have n1 : _ = _ := PySem.SeqAt.ReadsAll.length _ _ _ hr
        have n2 : _ = _ := PySem.SeqAt.ReadsAll.length _ _ _ hr2
        refine kat_lt (s := { s with heap := h' }) ho hd ho2 hd2 (katLex_cmp (s := { s with heap := h' }) hu _ _ 0 _ _ _ _ b hr hr2 hb1 (by omega) (by omega) (fun hbt _ z r t e => ?_) ?_ ⟨rfl, rfl⟩)
        · cases e
          intro e2
          subst e2
          rw [← e1] at hbt
          simp [tyD] at hbt
        · simp only [Array.length_toList] at n1 n2
          rw [n1, n2]
end
end Og
namespace Og
open PySem PySem.W L2 PyProof.Rows
section
variable {X : Cx} {c : Cf} {A : List Addr} {H : Hp} {h h' : Hist}
mutual
theorem Rv.uniq : ∀ {v : V} {d d' : D}, Rv c H A v d → Rv c H A v d' → alkD d d = true → d = d'
  | _, _, d', .int i, r, _ => by cases r; rfl
  | _, _, d', .str i, r, _ => by cases r; rfl
  | _, _, d', .tup (ds := ds) hh rr, r, e => by
    simp only [alkD] at e
    cases r with
    | lst h2 n2 r2 => have := hh.1; rw [h2] at this; cases this
    | tup h2 r2 =>
      have := hh.1
      rw [h2.1] at this
      cases this
      rw [RvL.uniq rr r2 e]
    | dic h2 r2 =>
      rcases h2 with ⟨kvs, ⟨h3, _⟩, _⟩ | ⟨kvs, ⟨h3, _⟩, _⟩ <;> rcases h3 with h3 | ⟨o, h3⟩ <;> (have := hh.1; rw [h3] at this; cases this)
  | _, _, _, .non, _, e => by simp [alkD] at e
  | _, _, _, .bl _, _, e => by simp [alkD] at e
  | _, _, _, .lst _ _ _, _, e => by simp [alkD] at e
  | _, _, _, .dic _ _, _, e => by simp [alkD] at e
theorem RvL.uniq : ∀ {v : List V} {d d' : List D}, RvL c H A v d → RvL c H A v d' → alkL d d = true → d = d'
  | _, _, _, .nil, r, _ => by cases r; rfl
  | _, _, _, .cons r t, r', e => by
    simp only [alkL, Bool.and_eq_true] at e
    cases r' with
    | cons r2 t2 => rw [Rv.uniq r r2 e.1, RvL.uniq t t2 e.2]
end
theorem cmp_self : ∀ {xs : List D} {r : Bool}, cmpTs xs xs = some r → alkL xs xs = true
  | [], _, _ => rfl
  | x :: xs, r, h => by
    have ha := cmp_head h
    simp only [cmpTs, ha, eqv_refl x ha] at h
    simp only [alkL, Bool.and_eq_true]
    exact ⟨ha, cmp_self h⟩
theorem allCmp_alk {l : List D} (h : allCmp l = true) {d : D} (m : d ∈ l) : alkD d d = true := by
  obtain ⟨b, hb⟩ := allCmp_mem h d m d m
  obtain ⟨a, xs, b', ys, e1, e2, h3⟩ := cmpD_inv hb
  rw [e1] at e2
  cases e2
  rw [e1]
  simp only [alkD]
  exact cmp_self h3
theorem allCmp_tup {l : List D} (h : allCmp l = true) {d : D} (m : d ∈ l) : ∃ x xs, d = .tuple (x :: xs) := by
  obtain ⟨b, hb⟩ := allCmp_mem h d m d m
  obtain ⟨a, xs, b', ys, e1, e2, h3⟩ := cmpD_inv hb
  exact ⟨a, xs, e1⟩
/-- the tree of a value among some -/
def kOf : List V → List D → Value → D
  | .ref a :: xs, d :: ds, .ref b => if a = b then d else kOf xs ds (.ref b)
  | _ :: xs, _ :: ds, v => kOf xs ds v
  | _, _, _ => .none
theorem kOf_at {l : List D} (hl : allCmp l = true) : ∀ {xs : List V} {ds : List D}, RvL c H A xs ds → (∀ d ∈ ds, d ∈ l) → ∀ {b : Addr} {d : D}, V.ref b ∈ xs → Rv c H A (.ref b) d → alkD d d = true → kOf xs ds (.ref b) = d
  | _, _, .nil, _, _, _, m, _, _ => nomatch m
  | _, _, .cons (v := v) (d := d0) r t, hd, b, d, m, rd, ha => by
    obtain ⟨x, xs, ex⟩ := allCmp_tup hl (hd d0 (by simp))
    subst ex
    cases r with
    | tup h1 r1 =>
      rename_i a vs
      simp only [kOf]
      split
      · rename_i e
        subst e
        exact (Rv.uniq rd (.tup h1 r1) ha).symm
      · rename_i ne
        rcases List.mem_cons.mp m with e | m
        · cases e; exact absurd rfl ne
        · exact kOf_at hl t (fun d m => hd d (by simp [m])) m rd ha
mutual
theorem reads_uniq {h : Heap} : ∀ (d d' : D) (v : Value) (as bs : List Addr), alkD d d = true → Reads h v d as → Reads h v d' bs → d = d' := by
  intro d
  cases d with
  | tuple xs =>
    intro d' v as bs ha r r'
    simp only [alkD] at ha
    cases r with
    | tuple h1 h2 h3 h4 =>
      cases r' with
      | tuple k1 k2 k3 k4 =>
        rw [h1] at k1
        cases k1
        rw [h3] at k3
        cases k3
        rw [readsL_uniq _ _ _ _ _ ha h4 k4]
      | list k1 k2 k3 k4 =>
        rw [h1] at k1
        cases k1
        rw [h2] at k2
        exact absurd (Value.type.inj k2) (by decide)
      | dict k1 k2 k3 =>
        rw [h1] at k1
        cases k1
        rw [h3] at k3
        cases k3
  | int i => intro d' v as bs ha r r'; cases r; cases r'; rfl
  | str i => intro d' v as bs ha r r'; cases r; cases r'; rfl
  | none => intro d' v as bs h; simp [alkD] at h
  | bool b => intro d' v as bs h; simp [alkD] at h
  | list b => intro d' v as bs h; simp [alkD] at h
  | dict b => intro d' v as bs h; simp [alkD] at h
theorem readsL_uniq {h : Heap} : ∀ (d d' : List D) (v : List Value) (as bs : List Addr), alkL d d = true → ReadsAll h v d as → ReadsAll h v d' bs → d = d' := by
  intro d
  cases d with
  | nil => intro d' v as bs ha r r'; cases r; cases r'; rfl
  | cons x xs =>
    intro d' v as bs ha r r'
    simp only [alkL, Bool.and_eq_true] at ha
    cases r with
    | cons r1 r2 =>
      cases r' with
      | cons q1 q2 => rw [reads_uniq _ _ _ _ _ ha.1 r1 q1, readsL_uniq _ _ _ _ _ ha.2 r2 q2]
end
theorem rv_mem : ∀ {xs : List V} {ds : List D} {its : List Value}, RvL c H A xs ds → Vals xs its → ∀ v ∈ its, ∃ x d, x ∈ xs ∧ d ∈ ds ∧ Rv c H A x d ∧ RelV x v
  | _, _, _, .nil, .nil, _, m => nomatch m
  | _, _, _, .cons r t, .cons r1 t1, v, m => by
    rcases List.mem_cons.mp m with rfl | m
    · exact ⟨_, _, by simp, by simp, r, r1⟩
    · obtain ⟨x, d, h1, h2, h3, h4⟩ := rv_mem t t1 v m
      exact ⟨x, d, by simp [h1], by simp [h2], h3, h4⟩
theorem k_mem1 {l : List D} (hl : allCmp l = true) {xs : List V} {ds : List D} (rv : RvL c H A xs ds) (hd : ∀ d ∈ ds, d ∈ l) {x : V} {d : D} {v : Value} (mx : x ∈ xs) (md : d ∈ ds) (r : Rv c H A x d) (rl : RelV x v) : kOf xs ds v = d := by
  have ha := allCmp_alk hl (hd d md)
  obtain ⟨y, ys, ey⟩ := allCmp_tup hl (hd d md)
  subst ey
  cases r with
  | tup h1 r1 =>
    cases rl
    exact kOf_at hl rv hd mx (.tup h1 r1) ha
theorem k_mem {pins : List (Addr × Obj)} {σ : L2.St} {s : Shared} (hK : X.K = c.K) (I : Inv X pins σ H s) {ds : List D} (hl : allCmp ds = true) {xs : List V} {its : List Value} (rv : RvL c H A xs ds) (rl : Vals xs its) (v : Value) (hv : v ∈ its) :
    ∃ d, d ∈ ds ∧ kOf xs ds v = d ∧ ∃ as, Reads s.heap v d as := by
  obtain ⟨x, d, mx, md, r, r1⟩ := rv_mem rv rl v hv
  exact ⟨d, md, k_mem1 hl rv (fun _ m => m) mx md r r1, Dp.reads I _ _ _ (by rw [hK]; exact r.dp (allCmp_lay hl _ md)) r1⟩
theorem k_map {l : List D} (hl : allCmp l = true) {xs0 : List V} {ds0 : List D} (rv0 : RvL c H A xs0 ds0) (hd : ∀ d ∈ ds0, d ∈ l) : ∀ {xs : List V} {ds : List D} {its : List Value}, RvL c H A xs ds → (∀ x ∈ xs, x ∈ xs0) → (∀ d ∈ ds, d ∈ ds0) → Vals xs its → its.map (kOf xs0 ds0) = ds
  | _, _, _, .nil, _, _, .nil => rfl
  | _, _, _, .cons r t, m1, m2, .cons r1 t1 => by
    rw [List.map_cons, k_map hl rv0 hd t (fun x m => m1 x (by simp [m])) (fun d m => m2 d (by simp [m])) t1, k_mem1 hl rv0 hd (m1 _ (by simp)) (m2 _ (by simp)) r r1]
theorem k_at {ds : List D} (hl : allCmp ds = true) {xs : List V} {its : List Value} (rv : RvL c H A xs ds) (rl : Vals xs its) : its.map (kOf xs ds) = ds := k_map hl rv (fun _ m => m) rv (fun _ m => m) (fun _ m => m) rl
theorem outs_of {ds : List D} (hl : allCmp ds = true) {xs : List V} {its : List Value} (rv : RvL c H A xs ds) (rl : Vals xs its) : ∀ (out : List Value), (∀ v ∈ out, v ∈ its) → ∃ ys, Vals ys out ∧ RvL c H A ys (out.map (kOf xs ds))
  | [], _ => ⟨[], .nil, .nil⟩
  | v :: out, m => by
    obtain ⟨ys, h1, h2⟩ := outs_of hl rv rl out fun v q => m v (by simp [q])
    obtain ⟨x, d, mx, md, r, r1⟩ := rv_mem rv rl v (m v (by simp))
    refine ⟨x :: ys, .cons r1 h1, ?_⟩
    rw [List.map_cons, k_mem1 hl rv (fun _ m => m) mx md r r1]
    exact .cons r h2
theorem trs_of {pins : List (Addr × Obj)} {σ : L2.St} {s : Shared} (hK : X.K = c.K) (I : Inv X pins σ H s) {l : List D} (hl : allCmp l = true) : ∀ {xs : List V} {ds : List D} {its : List Value}, RvL c H A xs ds → (∀ d ∈ ds, d ∈ l) → Vals xs its → TRs s.heap its ds
  | _, _, _, .nil, _, .nil => .nil
  | _, _, _, .cons (v := v) (d := d0) r t, hd, .cons r1 t1 => by
    have ha := allCmp_alk hl (hd d0 (by simp))
    obtain ⟨x, xs, ex⟩ := allCmp_tup hl (hd d0 (by simp))
    subst ex
    obtain ⟨as, q⟩ := Dp.reads I _ _ _ (by rw [hK]; exact r.dp (allCmp_lay hl _ (hd _ (by simp)))) r1
    exact .cons q (trs_of hK I hl t (fun d m => hd d (by simp [m])) t1)

/-- sorted of tuples, from a list or a tuple -/
theorem run_sortedT {pins : List (Addr × Obj)} {σ : L2.St} {s : Shared} {x : V} {us : List Value} {xs : List V} {ds : List D} {Q : VK} (hK : X.K = c.K) (hu : X.A.units + 65 < cLine) (I : Inv X pins σ H s) (r : Vals [x] us) (hx : (∃ a, x = .ref a ∧ SqL X.K H a xs) ∨ ∃ a, x = .ref a ∧ SqT X.K H a xs)
    (rv : RvL c H A xs ds) (hc : allCmp ds = true) (q : ∀ p ys, H p = none → RvL c H A ys (srtL ds) → Q (.ref p) (upd H p (.lst ys))) : wpAny (model X.prog X.w) X.A (call (.builtin "sorted") us) (EP X pins σ Q) X.xe s := by
  have go : ∀ (its : List Value) (a : Addr), Vals xs its → xs.length ≤ sizeLine → (∀ (A : Around) (Q : List Value → Shared → Prop), Q its { s with heap := (s.heap.push (seqObj "list" #[] 0)).update s.heap.objs.size (Obj.mapSeq (· ++ its.toArray)) } → wpAny (model X.prog X.w) A (collect (.ref a)) Q X.xe s) →
      wpAny (model X.prog X.w) X.A (call (.builtin "sorted") [.ref a]) (EP X pins σ Q) X.xe s := fun its a rvl hz hcol => by
    have hl := rvl.length
    have trs := trs_of hK I hc rv (fun _ m => m) rvl
    have hkk := k_at hc rv rvl
    have hku : ∀ v ∈ its, ∀ y ys as, PyData.tuple (y :: ys) ∈ ds → Reads s.heap v (.tuple (y :: ys)) as → kOf xs ds v = .tuple (y :: ys) := fun v hv y ys as m rd => by
      obtain ⟨d, hd, hkd, as', rd'⟩ := k_mem hK I hc rv rvl v hv
      rw [hkd]
      exact reads_uniq _ _ _ _ _ (allCmp_alk hc hd) rd' rd
    refine sorted_of (swo_data (kOf xs ds)) (by omega) hcol (fun h2 h₁ a' ha' kk => sortable_mix (kOf xs ds) (by show X.A.units + 1 + 1 + 61 < cLine; omega) h2 hc s.heap trs hku kk) fun out h1 h2 => ?_
    obtain ⟨ep, he'⟩ := PyProof.Rows.sortedAll_at s.heap its out.toArray
    have hperm : (out.map (kOf xs ds)).Perm ds := by
      have := h2.perm.map (kOf xs ds)
      rw [hkk] at this
      exact this
    have e := srtL_eq hc hperm (List.pairwise_map.mpr h1)
    obtain ⟨ys, v1, v2⟩ := outs_of hc rv rvl out (fun v m => h2.perm.mem_iff.mp m)
    rw [e] at v2
    have hlen : ys.length ≤ sizeLine := by
      have h3 := v1.length
      have h4 := h2.perm.length_eq
      omega
    exact ⟨.ref _, upd H (s.heap.objs.size + 1) (.lst ys), I.laid (t' := s.toks) (fun _ _ => PyProof.Rows.sortedAll_old) (Nat.le_succ _) ⟨hlen, out, ep, v1, he'⟩, rfl, q _ _ (I.hok.fresh (Nat.le_succ _)) v2⟩
  rcases hx with ⟨a, rfl, hs⟩ | ⟨a, rfl, hs⟩
  · obtain ⟨its, rv, hl, hz⟩ := I.list hs
    rw [Vals.ref1 r]
    have hl2 := rv.length
    exact go its a rv hz fun A Q h => collect_list hl.isList h (by omega)
  · obtain ⟨its, rv, hl, hz⟩ := I.tuple hs
    rw [Vals.ref1 r]
    have hl2 := rv.length
    exact go its a rv hz fun A Q h => collect_tup hl h (by omega)
end
end Og

end
section
set_option Elab.async false
set_option linter.all false
set_option maxRecDepth 100000
set_option maxHeartbeats 4000000
/-! sorted, sum, isinstance. -/
namespace Og
open PySem L2 PyProof.Rows
section
variable {prog : Program} {w : World} {A : Around} {E : Value → Shared → Prop} {s : Shared}
theorem sum_tup {l : Addr} {its : List Value} {ns : List Int} {Q : Value → Shared → Prop} (hh : A.handled = none) (hl : IsTup s.heap l its.toArray) (hi : IntsAre its ns)
    (h : ∀ h' tk t', (∀ b o, s.heap.get? b = some o → h'.get? b = some o) → Q (.int ns.sum t') { s with heap := h', toks := tk }) : wpAny (model prog w) A (call (.builtin "sum") [.ref l]) Q E s := by
  obtain ⟨xs, e⟩ := hi.allInts.items
  have hn : numsOf (intItems xs).toList = ns := by rw [← e]; exact hi.numsOf
  rw [nums_intItems] at hn
  rw [e] at hl
  have hlt : l < s.heap.objs.size := hl.lt
  refine call_sum_walkG (wpAny_pyIter_tuple (show s.heap.IsTuple l (intItems xs) from hl) ?_)
  refine ⟨_, _, _, _, _, _, numAt xs, rfl, Walks.tuple (A := A.in1) hh _ l (Nat.ne_of_lt hlt) (intItems xs), ⟨⟨_, Heap.get?_push_size _ rfl, rfl, rfl⟩, ?_⟩, fun b hb => ?_, (fun _ _ => intItems_at), fun h' tk t' hk => ?_⟩
  · obtain ⟨o, h1, h2⟩ := hl
    exact ⟨o, Heap.get?_push_of_some _ h1, h2⟩
  · have : (s.heap.push { cls := .type "tuple_iterator", data := .fields #[.ref l, .int 0 0] }).objs.size = s.heap.objs.size + 1 := Heap.size_push ..
    show b < (s.heap.push _).objs.size
    rw [this]
    simp only [List.mem_cons, List.not_mem_nil, or_false] at hb
    rcases hb with rfl | rfl
    · exact Nat.lt_succ_self _
    · exact Nat.lt_succ_of_lt hlt
  · have := h h' tk t' (fun b o q => hk b o (by simp only [List.mem_cons, List.not_mem_nil, or_false]; exact Nat.ne_of_lt (Heap.lt_size q)) (Heap.get?_push_of_some _ q))
    have e2 : preSum (numAt xs) (intItems xs).size = ns.sum := by
      rw [preSum_eq, List.take_of_length_le (by simp [intItems]), hn]
    rw [e2]
    exact this
end

theorem insI_perm (x : Int) : ∀ l : List Int, (insI x l).Perm (x :: l)
  | [] => .refl _
  | y :: r => by
    simp only [insI]
    split
    · exact .refl _
    · exact ((insI_perm x r).cons y).trans (.swap x y r)
theorem srtI_perm : ∀ l : List Int, (srtI l).Perm l
  | [] => .refl _
  | x :: r => (insI_perm x (srtI r)).trans ((srtI_perm r).cons x)
theorem insI_sorted (x : Int) : ∀ l : List Int, l.Pairwise (· ≤ ·) → (insI x l).Pairwise (· ≤ ·)
  | [], _ => by simp [insI]
  | y :: r, h => by
    rw [List.pairwise_cons] at h
    simp only [insI]
    split
    · rename_i e
      rw [leI_iff] at e
      have e : x ≤ y := of_decide_eq_true e
      rw [List.pairwise_cons]
      refine ⟨fun z hz => ?_, List.pairwise_cons.mpr h⟩
      rcases List.mem_cons.mp hz with rfl | hz
      · exact e
      · exact Int.le_trans e (h.1 z hz)
    · rename_i e
      rw [leI_iff] at e
      have e : ¬ x ≤ y := of_decide_eq_false e
      rw [List.pairwise_cons]
      refine ⟨fun z hz => ?_, insI_sorted x r h.2⟩
      rcases List.mem_cons.mp ((insI_perm x r).mem_iff.mp hz) with rfl | hz
      · omega
      · exact h.1 z hz
theorem srtI_sorted : ∀ l : List Int, (srtI l).Pairwise (· ≤ ·)
  | [] => .nil
  | x :: r => insI_sorted x _ (srtI_sorted r)
theorem srtI_eq {l m : List Int} (p : m.Perm l) (s : m.Pairwise (· ≤ ·)) : m = srtI l :=
  (p.trans (srtI_perm l).symm).eq_of_pairwise (fun x y _ _ h1 h2 => Int.le_antisymm h1 h2) s (srtI_sorted l)
theorem sumF_eq : ∀ (l : List Int) (a : Int), sumF l a = a + l.sum
  | [], a => by simp [sumF]
  | x :: r, a => by simp only [sumF, iF_eq, sumF_eq r, List.sum_cons]; omega
section
variable {X : Cx} {c : Cf} {A : List Addr} {H : Hp} {h h' : Hist}
theorem rvl_ints : ∀ l : List Int, RvL c H A (l.map V.int) (dI l)
  | [] => .nil
  | i :: r => .cons (.int i) (rvl_ints r)
/-- sorted of ints, from a list or a tuple -/
theorem run_sortedI {pins : List (Addr × Obj)} {σ : L2.St} {s : Shared} {x : V} {us : List Value} {l : List Int} {Q : VK} (I : Inv X pins σ H s) (r : Vals [x] us) (hx : (∃ a, x = .ref a ∧ SqL X.K H a (l.map V.int)) ∨ ∃ a, x = .ref a ∧ SqT X.K H a (l.map V.int))
    (q : ∀ p, H p = none → Q (.ref p) (upd H p (.lst ((srtI l).map V.int)))) : wpAny (model X.prog X.w) X.A (call (.builtin "sorted") us) (EP X pins σ Q) X.xe s := by
  have go : ∀ (its : List Value) (a : Addr), Vals (l.map V.int) its → l.length ≤ sizeLine → (∀ (A : Around) (Q : List Value → Shared → Prop), Q its { s with heap := (s.heap.push (seqObj "list" #[] 0)).update s.heap.objs.size (Obj.mapSeq (· ++ its.toArray)) } → wpAny (model X.prog X.w) A (collect (.ref a)) Q X.xe s) →
      wpAny (model X.prog X.w) X.A (call (.builtin "sorted") [.ref a]) (EP X pins σ Q) X.xe s := fun its a rv hz hcol => by
    have hi := rv.ints
    have hl := rv.length
    rw [List.length_map] at hl
    refine sorted_of SrtO.swo_int (by omega) hcol (fun h2 h₁ a' _ _ => SrtO.ints_sortable hi h2) fun out h1 h2 => ?_
    obtain ⟨k1, k2, k3⟩ := SrtO.ints_out hi h1 h2
    obtain ⟨ep, he'⟩ := PyProof.Rows.sortedAll_at s.heap its out.toArray
    have e := srtI_eq k2 k3
    rw [e] at k1
    have hlen : ((srtI l).map V.int).length ≤ sizeLine := by
      rw [List.length_map, (srtI_perm l).length_eq]; exact hz
    exact ⟨.ref _, upd H (s.heap.objs.size + 1) (.lst ((srtI l).map V.int)), I.laid (t' := s.toks) (fun _ _ => PyProof.Rows.sortedAll_old) (Nat.le_succ _) ⟨hlen, out, ep, vals_of_ints k1, he'⟩, rfl, q _ (I.hok.fresh (Nat.le_succ _))⟩
  rcases hx with ⟨a, rfl, hs⟩ | ⟨a, rfl, hs⟩
  · obtain ⟨its, rv, hl, hz⟩ := I.list hs
    rw [Vals.ref1 r]
    rw [List.length_map] at hz
    have hl2 := rv.length
    rw [List.length_map] at hl2
    exact go its a rv hz fun A Q h => collect_list hl.isList h (by omega)
  · obtain ⟨its, rv, hl, hz⟩ := I.tuple hs
    rw [Vals.ref1 r]
    rw [List.length_map] at hz
    have hl2 := rv.length
    rw [List.length_map] at hl2
    exact go its a rv hz fun A Q h => collect_tup hl h (by omega)
theorem seq_ints {x : D} {xs : List D} {l : List Int} {v : V} (hK : X.K = c.K) (es : seqOf x = some xs) (ei : intsD xs = some l) (w : Wn c H A v x) : (∃ a, v = .ref a ∧ SqL X.K H a (l.map V.int)) ∨ ∃ a, v = .ref a ∧ SqT X.K H a (l.map V.int) := by
  cases x with
  | list ys =>
    cases es
    obtain ⟨a, vs, rfl, ha, ra⟩ := w.wr.lst
    obtain ⟨h1, _⟩ := ra.intsD ei
    subst h1
    exact .inl ⟨a, rfl, SqL.of ha⟩
  | tuple ys =>
    cases es
    obtain ⟨a, vs, rfl, ha, ra⟩ := w.tup
    obtain ⟨h1, _⟩ := ra.intsD ei
    subst h1
    exact .inr ⟨a, rfl, SqT.of ha.1⟩
  | _ => simp [seqOf] at es
theorem bl_sorted {as : List D} {z : D} {f : Fl} (hK : X.K = c.K) (hu : X.A.units + 65 < cLine) (e : bltV .sorted as h = .ok z f h') : CallR X (.builtin "sorted") (rBl c A h as z f h') := by
  intro pins s σ H xs us Q I r ⟨wl, hw, q⟩
  match as, e with
  | [x], e =>
    obtain ⟨v, rfl, wv⟩ := wl.one
    simp only [bltV] at e
    split at e
    · rename_i ys es
      split at e
      · rename_i l ei
        cases e
        exact run_sortedI I r (seq_ints hK es ei wv) fun p hp => q _ _ (Kp.new hp) (hw.new hp) (vl_newL hw hp (rvl_ints _))
      · rename_i ei
        split at e
        · rename_i l el
          cases e
          unfold srtT at el
          split at el
          · rename_i hc
            cases el
            cases x with
            | list ys' =>
              cases es
              obtain ⟨a, vs, rfl, ha, ra⟩ := wv.wr.lst
              exact run_sortedT hK hu I r (.inl ⟨a, rfl, SqL.of ha⟩) ra hc fun p ys hp ry => q _ _ (Kp.new hp) (hw.new hp) (vl_newL hw hp ry)
            | tuple ys' =>
              cases es
              obtain ⟨a, vs, rfl, ha, ra⟩ := wv.tup
              exact run_sortedT hK hu I r (.inr ⟨a, rfl, SqT.of ha.1⟩) ra hc fun p ys hp ry => q _ _ (Kp.new hp) (hw.new hp) (vl_newL hw hp ry)
            | _ => simp [seqOf] at es
          · cases el
        · cases e
    · cases e
  | [], e => simp [bltV] at e
  | _ :: _ :: _, e => simp [bltV] at e
theorem bl_sum {as : List D} {z : D} {f : Fl} (hK : X.K = c.K) (hc : X.calm = true) (e : bltV .sum as h = .ok z f h') : CallR X (.builtin "sum") (rBl c A h as z f h') := by
  intro pins s σ H xs us Q I r ⟨wl, hw, q⟩
  match as, e with
  | [x], e =>
    obtain ⟨v, rfl, wv⟩ := wl.one
    simp only [bltV] at e
    split at e
    · rename_i ys es
      split at e
      · rename_i l ei
        obtain ⟨rfl, rfl, rfl⟩ := kIx e
        have hq : Q (.int l.sum) H := by
          have := q _ _ .refl hw (Rv.int _)
          rw [sumF_eq] at this
          simpa using this
        rcases seq_ints hK es ei wv with ⟨a, rfl, hs⟩ | ⟨a, rfl, hs⟩
        · exact cr_sum hc pins s σ H _ us Q I r ⟨a, l, rfl, hs, hq⟩
        · obtain ⟨its, rv, hl, _⟩ := I.tuple hs
          rw [Vals.ref1 r]
          exact sum_tup (I.ok.hd hc) hl rv.ints fun h' tk t' hk => ⟨.int _, H, I.kept hk, ⟨_, rfl⟩, hq⟩
      · cases e
    · cases e
  | [], e => simp [bltV] at e
  | _ :: _ :: _, e => simp [bltV] at e

/-! ### isinstance -/
theorem tyx {K : PySem.W.Frag} {v : V} {d : D} (w : Wn c H A v d) (n : noDict d = true) : ∃ t : String, TyX K H v (.type t) ∧ ((t = "NoneType" ∧ d = .none) ∨ (t = "bool" ∧ ∃ b, d = .bool b) ∨ (t = "int" ∧ ∃ b, d = .int b) ∨ (t = "str" ∧ ∃ b, d = .str b) ∨ (t = "list" ∧ ∃ b, d = .list b) ∨ (t = "tuple" ∧ ∃ b, d = .tuple b)) := by
  cases d with
  | none => have a := w.wr.non; subst a; exact ⟨_, .base .non, .inl ⟨rfl, rfl⟩⟩
  | bool b => have a := w.wr.bl; subst a; exact ⟨_, .base (.bl b), .inr (.inl ⟨rfl, b, rfl⟩)⟩
  | int b => have a := w.wr.int; subst a; exact ⟨_, .base (.int b), .inr (.inr (.inl ⟨rfl, b, rfl⟩))⟩
  | str b => have a := w.wr.str; subst a; exact ⟨_, .base (.str b), .inr (.inr (.inr (.inl ⟨rfl, b, rfl⟩)))⟩
  | list b => obtain ⟨a, xs, rfl, h, _⟩ := w.wr.lst; exact ⟨_, .base (.lst h), .inr (.inr (.inr (.inr (.inl ⟨rfl, b, rfl⟩))))⟩
  | tuple b => obtain ⟨a, xs, rfl, h, _⟩ := w.tup; exact ⟨_, .base (.tup h.1), .inr (.inr (.inr (.inr (.inr ⟨rfl, b, rfl⟩))))⟩
  | dict b => simp [noDict] at n
end
end Og

end
section
set_option Elab.async false
set_option linter.all false
set_option maxRecDepth 100000
set_option maxHeartbeats 4000000
/-! sorted(set(..)), len(set(..)) of ints. -/
namespace Og
open PySem PySem.Spec PyProof.Rows L2
section
variable {P : Program} {w : World} {A : Around} {E : Value → Shared → Prop} {s : Shared}
set_option maxRecDepth 100000 in
set_option maxHeartbeats 3200000 in
theorem call_set_lstI {l : Addr} {items : Array Value} (ns : List Int) {Q : Value → Shared → Prop} (hh : A.handled = none) (hl : s.heap.IsList l items) (hit : IntsAre items.toList ns) (hb : ns.length + 1 < scanBound)
    (h : ∀ (h' : Heap) (tk c : Nat), SetR w h' s.heap.objs.size (fun j => decide (j ∈ ns)) c → c ≤ ns.length → (∀ b o, s.heap.get? b = some o → h'.get? b = some o) → Q (.ref s.heap.objs.size) { s with heap := h', toks := tk }) :
    wpAny (model P w) A (call (.type "set") [.ref l]) Q E s := by
  have hisz : items.size = ns.length := by
    have q := IntsAre.length hit
    rw [Array.length_toList] at q
    exact q
  obtain ⟨c, tl, hmro⟩ := F.called_set.mro
  have hmade := F.called_set.made
  have hsub := F.called_set.sub
  refine wpAny_call (codeAny_of_tree ?_)
  show wpAny _ _ (callAny (.type "set") _) _ _ _
  refine wpAny_pure ⟨Code.quiet_builtin _ (by decide +kernel), codeAny_builtin F.entry_type_call ?_⟩
  rw [Around.under_plain (weight_type_call_type "set" [.ref l] []) rfl]
  have h1 := F.called_set.notType
  have h2 := F.called_set.canCreate
  have hct := F.typeCall_set_1 (.ref l)
  repeat (any_goals (first | assumption | wp_step))

  refine codeAny_mono (code_set_led1 (.ref l) (E := E) (Q₁ := fun obj s₁ => obj = .ref s.heap.objs.size ∧ s₁ = { s with heap := s.heap.push { cls := .type "set", dict := none, data := .set #[] 0 (.fresh 0 0 (!w.params.followText "set-order")) } }) ⟨rfl, rfl⟩) fun r s₁ hr => ?_
  cases r with
  | error e => exact hr
  | ok fl =>
    cases fl with
    | ret obj =>
      obtain ⟨rfl, rfl⟩ := hr
      have hS : (s.heap.push { cls := .type "set", dict := none, data := .set #[] 0 (.fresh 0 0 (!w.params.followText "set-order")) }).get? s.heap.objs.size = some { cls := .type "set", dict := none, data := .set #[] 0 (.fresh 0 0 (!w.params.followText "set-order")) } := Heap.get?_push_size _ rfl
      have hT : Shared.TypeIs { s with heap := s.heap.push { cls := .type "set", dict := none, data := .set #[] 0 (.fresh 0 0 (!w.params.followText "set-order")) } } (.ref s.heap.objs.size) "set" := ⟨_, hS, rfl⟩
      have hli := F.called_set.init.lookup
      have hbi := F.called_set.init.bind (.ref s.heap.objs.size)
      repeat (any_goals (first | assumption | wp_step))

      refine codeAny_mono (codeAny_call_builtin (R := wants (fun r s₂ => r = .none ∧ ∃ h' tk c, s₂ = { s with heap := h', toks := tk } ∧ SetR w h' s.heap.objs.size (fun j => decide (j ∈ ns)) c ∧ c ≤ ns.length ∧
          (∀ b o, s.heap.get? b = some o → h'.get? b = some o)) E) F.called_set.init.plain F.entry_set_init (check_set_init_1 hT ?_)) fun r₂ s₂ hr₂ => ?_
      · obtain ⟨ol, hol, hcl, nl, hdl⟩ := hl
        obtain ⟨ocls, odict, odata, oslots⟩ := ol
        simp only at hcl hdl
        subst hcl; subst hdl
        have hol' : (s.heap.push { cls := .type "set", dict := none, data := .set #[] 0 (.fresh 0 0 (!w.params.followText "set-order")) }).get? l = some { cls := .type "list", dict := odict, data := .seq items nl, slots := oslots } := Heap.get?_push_of_some _ hol
        have hsls := F.sub_list_set
        have hslf := F.sub_list_frozenset
        have hne : (Value.type "list" == Value.type "dict") = false := by decide
        have hl1 : (s.heap.push { cls := .type "set", dict := none, data := .set #[] 0 (.fresh 0 0 (!w.params.followText "set-order")) }).IsList l items := ⟨_, hol', rfl, nl, rfl⟩
        unfold Builtin.«set.__init__» noKeywords Builtin.Frozenset.updateFrom
        generalize hPI : pyIter = PI
        wp_walk
        subst hPI

        refine wpAny_pyIter_list hl1 ?_
        refine wpAny_bind (wpAny_runValue ?_)
        have hlS : l < s.heap.objs.size := Heap.lt_size hol
        have hh3 : A.in1.in1.in1.handled = none := by simp [hh]
        have hz1 : (s.heap.push { cls := .type "set", dict := none, data := .set #[] 0 (.fresh 0 0 (!w.params.followText "set-order")) }).objs.size = s.heap.objs.size + 1 := Heap.size_push ..
        have hneI : l ≠ (s.heap.push { cls := .type "set", dict := none, data := .set #[] 0 (.fresh 0 0 (!w.params.followText "set-order")) }).objs.size := by
          rw [Heap.size_push]; exact Nat.ne_of_lt (Nat.lt_succ_of_lt hlS)
        have hSf : s.heap.objs.size ∉ [(s.heap.push { cls := .type "set", dict := none, data := .set #[] 0 (.fresh 0 0 (!w.params.followText "set-order")) }).objs.size, l] := by
          rw [Heap.size_push]; simp only [List.mem_cons, List.mem_singleton, List.not_mem_nil, or_false, not_or]
          exact ⟨Nat.ne_of_lt (Nat.lt_succ_self _), Nat.ne_of_gt hlS⟩
        have hval : ∀ (i : Nat) (v : Value), items[i]? = some v → ∃ k t, ns[i]? = some k ∧ v = .int k t := fun i v hv => by
          have hi : i < ns.length := by rw [← hisz]; exact (Array.getElem?_eq_some_iff.mp hv).1
          obtain ⟨t, e⟩ := PyProof.Rows.IntsAre.int_at hit i v (by rw [Array.getElem?_toList]; exact hv)
          refine ⟨ns[i], t, List.getElem?_eq_getElem hi, ?_⟩
          rw [e, List.getD_eq_getElem?_getD, List.getElem?_eq_getElem hi] <;> rfl
        refine set_update_ints ((Walks.list hh3 _ l hneI items).toS) s.heap.objs.size
          hSf ns hisz hb hval (items.size - 0) 0 _ (by omega) (Nat.zero_le _)
          ⟨⟨_, Heap.get?_push_size _ rfl, rfl, rfl⟩, (hl1.push _)⟩ ?hS0 ?hR
        case hS0 =>
          have hget : ((s.heap.push { cls := .type "set", dict := none, data := .set #[] 0 (.fresh 0 0 (!w.params.followText "set-order")) }).push { cls := .type "list_iterator", data := .fields #[.ref l, .int 0 0] }).get? s.heap.objs.size
              = some { cls := .type "set", dict := none, data := .set #[] 0 (.fresh 0 0 (!w.params.followText "set-order")) } := Heap.get?_push_of_some _ hS
          exact ⟨0, Nat.le_refl 0, setR_new_at hget⟩
        case hR =>
          intro s' c' hm hc' hS'
          obtain ⟨h', g2, d', tk', os'⟩ := s'
          have eg : g2 = s.gens := hm.gens
          have ed : d' = s.drawn := hm.drawn
          have eo : os' = s.os := hm.os
          subst eg; subst ed; subst eo
          show wpAny _ _ _ _ _ _
          refine wpAny_pure ?_
          show wpAny _ _ (ret Value.none) _ _ _
          rw [hisz] at hc'
          refine wpAny_pure ⟨rfl, h', tk', c', rfl, hS', hc', fun b o e => ?_⟩
          have hb0 : b < s.heap.objs.size := Heap.lt_size e
          have hb1 : b ≠ s.heap.objs.size := Nat.ne_of_lt hb0
          have hb2 : b ≠ (s.heap.push { cls := .type "set", dict := none, data := .set #[] 0 (.fresh 0 0 (!w.params.followText "set-order")) }).objs.size := by
            rw [Heap.size_push]; exact Nat.ne_of_lt (Nat.lt_succ_of_lt hb0)
          exact hm.heap b o (by simp only [List.mem_cons, List.mem_singleton, List.not_mem_nil, or_false, not_or]; exact ⟨hb1, hb2⟩) (Heap.get?_push_of_some _ (Heap.get?_push_of_some _ e))

      · cases r₂ with
        | error e => exact hr₂
        | ok fl₂ =>
          cases fl₂ with
          | ret r =>
            obtain ⟨rfl, h', tk, c', rfl, hS', hc', hk'⟩ := hr₂
            repeat (any_goals (first | assumption | wp_step))
            exact h _ _ _ hS' hc' hk'
          | _ => exact hr₂.elim
    | _ => exact hr.elim

end

/-! ### the sorted members -/
theorem mem_insI {x y : Int} : ∀ {l : List Int}, y ∈ insI x l ↔ y = x ∨ y ∈ l
  | [] => by simp [insI]
  | z :: r => by
    unfold insI
    split
    · simp
    · simp only [List.mem_cons, mem_insI (l := r)]
      constructor
      · rintro (h | h | h) <;> simp [h]
      · rintro (h | h | h) <;> simp [h]
theorem mem_srtI {y : Int} : ∀ {l : List Int}, y ∈ srtI l ↔ y ∈ l
  | [] => by simp [srtI]
  | x :: r => by simp [srtI, mem_insI, mem_srtI (l := r)]
theorem mem_dupI {y : Int} : ∀ {l : List Int}, y ∈ dupI l ↔ y ∈ l
  | [] => by simp [dupI]
  | x :: r => by
    unfold dupI
    split
    · rename_i h
      obtain ⟨z, hz, e⟩ := List.any_eq_true.mp h
      have e : x = z := by rw [eqI_iff] at e; simpa using e
      subst e
      rw [mem_dupI (l := r)]
      simp only [List.mem_cons]
      exact ⟨.inr, fun q => by rcases q with rfl | q; exact hz; exact q⟩
    · simp [mem_dupI (l := r)]
theorem nodup_dupI : ∀ (l : List Int), (dupI l).Nodup
  | [] => by simp [dupI]
  | x :: r => by
    unfold dupI
    split
    · exact nodup_dupI r
    · rename_i h
      refine List.nodup_cons.mpr ⟨fun m => ?_, nodup_dupI r⟩
      have : r.any (eqI x) = true := List.any_eq_true.mpr ⟨x, mem_dupI.mp m, by rw [eqI_iff]; simp⟩
      rw [this] at h
      cases h
theorem ins_lt {x : Int} : ∀ {l : List Int}, l.Pairwise (· < ·) → x ∉ l → (insI x l).Pairwise (· < ·)
  | [], _, _ => by simp [insI]
  | y :: r, h, n => by
    obtain ⟨h1, h2⟩ := List.pairwise_cons.mp h
    have nx : x ≠ y := fun e => n (by simp [e])
    unfold insI
    split
    · rename_i e
      have e : x ≤ y := by rw [leI_iff] at e; simpa using e
      refine List.pairwise_cons.mpr ⟨fun z hz => ?_, h⟩
      rcases List.mem_cons.mp hz with rfl | q
      · omega
      · have := h1 z q; omega
    · rename_i e
      have e : ¬ x ≤ y := by rw [leI_iff] at e; simpa using e
      refine List.pairwise_cons.mpr ⟨fun z hz => ?_, ins_lt h2 fun m => n (List.mem_cons_of_mem _ m)⟩
      rcases mem_insI.mp hz with rfl | q
      · omega
      · exact h1 z q
theorem srt_lt : ∀ {l : List Int}, l.Nodup → (srtI l).Pairwise (· < ·)
  | [], _ => by simp [srtI]
  | x :: r, h => by
    obtain ⟨h1, h2⟩ := List.nodup_cons.mp h
    exact ins_lt (srt_lt h2) fun m => h1 (mem_srtI.mp m)
theorem lt_uniq : ∀ {a b : List Int}, a.Pairwise (· < ·) → b.Pairwise (· < ·) → (∀ k, k ∈ a ↔ k ∈ b) → a = b
  | [], [], _, _, _ => rfl
  | [], y :: r, _, _, h => by have := (h y).mpr (by simp); simp at this
  | x :: r, [], _, _, h => by have := (h x).mp (by simp); simp at this
  | x :: r, y :: t, ha, hb, h => by
    obtain ⟨a1, a2⟩ := List.pairwise_cons.mp ha
    obtain ⟨b1, b2⟩ := List.pairwise_cons.mp hb
    have e : x = y := by
      have hx := (h x).mp (by simp)
      have hy := (h y).mpr (by simp)
      rcases List.mem_cons.mp hx with e | e
      · exact e
      · rcases List.mem_cons.mp hy with e2 | e2
        · exact e2.symm
        · have := b1 x e; have := a1 y e2; omega
    subst e
    rw [lt_uniq a2 b2 fun k => ?_]
    constructor
    · intro m
      rcases List.mem_cons.mp ((h k).mp (List.mem_cons_of_mem _ m)) with e | e
      · have := a1 k m; omega
      · exact e
    · intro m
      rcases List.mem_cons.mp ((h k).mpr (List.mem_cons_of_mem _ m)) with e | e
      · have := b1 k m; omega
      · exact e
theorem srt_dup {ns l : List Int} (h : ns.Pairwise (· < ·)) (hm : ∀ k, k ∈ ns ↔ k ∈ l) : ns = srtI (dupI l) :=
  lt_uniq h (srt_lt (nodup_dupI l)) fun k => by rw [hm, mem_srtI, mem_dupI]
theorem len_insI {x : Int} : ∀ {l : List Int}, (insI x l).length = l.length + 1
  | [] => rfl
  | y :: r => by
    unfold insI
    split
    · rfl
    · simp [len_insI (l := r)]
theorem len_srtI : ∀ {l : List Int}, (srtI l).length = l.length
  | [] => rfl
  | x :: r => by simp [srtI, len_insI, len_srtI (l := r)]
section
variable {X : Cx}
def rSqI (K : PySem.W.Frag) (x : V) (ns : List Int) (H : Hp) : Prop := ∃ l, x = .ref l ∧ (SqL K H l (ns.map V.int) ∨ SqT K H l (ns.map V.int))
/-- the members sorted, or their number -/
def tSrtSet (K : PySem.W.Frag) (ta : TE) : TE := fun σ H Q => ta σ H fun x H1 => ∃ ns : List Int, rSqI K x ns H1 ∧ ns.length < 64 ∧ ∀ p, H1 p = none → Q (.ref p) (upd H1 p (.lst ((srtI (dupI ns)).map V.int)))
def tLenSetI (K : PySem.W.Frag) (ta : TE) : TE := fun σ H Q => ta σ H fun x H1 => ∃ ns : List Int, rSqI K x ns H1 ∧ ns.length < 1000 ∧ Q (.int (dupI ns).length) H1
theorem set_run {pins : List (Addr × Obj)} {s : Shared} {σ : L2.St} {H : Hp} {x : V} {v : Value} {ns : List Int} {Q : Value → Shared → Prop} (hc : X.calm = true) (I : Inv X pins σ H s) (r : RelV x v) (hq : rSqI X.K x ns H) (hn : ns.length < 1000)
    (h : ∀ (a : Addr) (h' : Heap) (tk c : Nat), SetR X.w h' a (fun j => decide (j ∈ ns)) c → c ≤ ns.length → Inv X pins σ H { s with heap := h', toks := tk } → Q (.ref a) { s with heap := h', toks := tk }) :
    wpAny (model X.prog X.w) X.A (call (.type "set") [v]) Q X.xe s := by
  obtain ⟨l, rfl, hq⟩ := hq
  cases r
  have hb : ns.length + 1 < scanBound := by unfold scanBound; omega
  rcases hq with hq | hq
  · obtain ⟨its, r, pl, hz⟩ := I.list hq
    exact call_set_lstI ns (I.ok.hd hc) pl.isList (by simpa using intsAre_of r) hb fun h' tk c hS hc' hk => h _ h' tk c hS hc' (I.kept fun b o e => hk b o e)
  · obtain ⟨its, r, pl, hz⟩ := I.tuple hq
    exact call_set_tupI ns (I.ok.hd hc) pl (by simpa using intsAre_of r) hb fun h' tk c hS hc' hk => h _ h' tk c hS hc' (I.kept fun b o e => hk b o e)
theorem pe_srtSet {a : Expr} {ta : TE} {p p2 q pos : Pos} (hc : X.calm = true) (hg : Gl X "sorted") (hm : X.mg "sorted" = none) (hg2 : Gl X "set") (hm2 : X.mg "set" = none) (ha : PE X a ta)
    (na : starEach [a] X.env = (false, eval a X.env) :: starEach [] X.env := by rfl) : PE X (.Call (.Name "sorted" p) [.Call (.Name "set" p2) [a] [] q] [] pos) (tSrtSet X.K ta) := by
  refine ⟨fun pins s σ H Q I h => ?_⟩
  refine Call_ (ld_blt I hg hm boot_sorted ?_)
  refine PyProof.Rows.callWith_builtin1 (PyProof.Rows.args_cons ?_ rfl) rfl rfl
  refine Call_ (ld_blt I hg2 hm2 boot_set ?_)
  refine PyProof.Rows.callWith_type1 (PyProof.Rows.args_cons (thn (ha.run pins s σ H _ I h) fun v s1 ⟨x, H1, I1, r1, q1⟩ => PyProof.Rows.args_nil ?_) na) na rfl
  obtain ⟨ns, hq, hn, q1⟩ := q1
  refine set_run hc I1 r1 hq (by omega) fun st h' tk c hS hc' I2 => ?_
  refine PyProof.Rows.args_nil ?_
  refine sorted_set hS (I2.ok.hd hc) (by omega) fun s' pp out cc ns' k1 g1 o1 hp hg' hints hlt hmem hlen => ?_
  have e : ns' = srtI (dupI ns) := srt_dup hlt fun k => by rw [hmem k]; simp
  have hlen' : (ns'.map V.int).length ≤ sizeLine := by rw [List.length_map, hlen, sizeLine_eq]; omega
  have hnn : H1 pp = none := I2.hok.fresh hp
  have J : Inv X pins σ (upd H1 pp (.lst (ns'.map V.int))) { { s1 with heap := h', toks := tk } with heap := s'.heap, gens := s'.gens, drawn := s'.drawn, toks := s'.toks } :=
    I2.call (ch := []) (Un.laid k1 hp hnn) (I2.hok.laid k1 hp ⟨hlen', out.toList, cc, vals_of_ints hints, hg'⟩) (by rw [g1]; exact I2.bare) (fun _ z => nomatch z)
  have es : s' = { { s1 with heap := h', toks := tk } with heap := s'.heap, gens := s'.gens, drawn := s'.drawn, toks := s'.toks } := by
    cases s'
    cases s1
    cases o1
    rfl
  rw [es]
  refine ⟨.ref pp, _, J, rfl, ?_⟩
  rw [e]
  exact q1 pp hnn
theorem pe_lenSetI {a : Expr} {ta : TE} {p p2 q pos : Pos} (hc : X.calm = true) (hg : Gl X "len") (hm : X.mg "len" = none) (hg2 : Gl X "set") (hm2 : X.mg "set" = none) (ha : PE X a ta)
    (na : starEach [a] X.env = (false, eval a X.env) :: starEach [] X.env := by rfl) : PE X (.Call (.Name "len" p) [.Call (.Name "set" p2) [a] [] q] [] pos) (tLenSetI X.K ta) := by
  refine ⟨fun pins s σ H Q I h => ?_⟩
  refine Call_ (ld_blt I hg hm boot_len ?_)
  refine PyProof.Rows.callWith_builtin1 (PyProof.Rows.args_cons ?_ rfl) rfl rfl
  refine Call_ (ld_blt I hg2 hm2 boot_set ?_)
  refine PyProof.Rows.callWith_type1 (PyProof.Rows.args_cons (thn (ha.run pins s σ H _ I h) fun v s1 ⟨x, H1, I1, r1, q1⟩ => PyProof.Rows.args_nil ?_) na) na rfl
  obtain ⟨ns, hq, hn, q1⟩ := q1
  refine set_run hc I1 r1 hq (by omega) fun st h' tk c hS hc' I2 => ?_
  refine PyProof.Rows.args_nil ?_
  obtain ⟨o, es, ep, t, ho, hex, hd, hg1, nd, hmem, hsb, hf, hen, hris, hled⟩ := hS
  have pm : (es.toList.map keyOf).Perm (dupI ns) := (List.perm_ext_iff_of_nodup nd (nodup_dupI ns)).mpr fun k => by rw [← hmem k, mem_dupI]; simp
  have hl : es.size = (dupI ns).length := by rw [← pm.length_eq, List.length_map, Array.length_toList]
  refine call_len_set ho hex hd hf (by rw [hen] <;> omega) ⟨.int (dupI ns).length, H1, I2.tok _, ⟨_, by rw [hl]⟩, q1⟩
end
end Og

end
section
set_option Elab.async false
set_option linter.all false
set_option maxRecDepth 100000
/-! What is walked. -/
namespace PySem
open Sem (wp)
open AutoSeq1 (wpAny_loadPart')
theorem meets_enumerate_newT (l : Addr) (items : Array Value) :
    Meets (Builtin.«enumerate.__new__» ⟨[.type "enumerate", .ref l], []⟩) (fun _ R s => s.heap.IsTuple l items ∧
      R (.ok (.ret (.ref (s.heap.push { cls := .type "tuple_iterator", data := .fields #[.ref l, .int 0 0] }).objs.size)))
        { s with heap := (s.heap.push { cls := .type "tuple_iterator", data := .fields #[.ref l, .int 0 0] }).push { cls := .type "enumerate", data := .fields #[.none, .bool false, .ref s.heap.objs.size, rawInt 0, .none, .none] } }) :=
  .of_wp fun prog w A R s h => by
    obtain ⟨hp, g, d, tk, os⟩ := s; obtain ⟨hL, h⟩ := h
    have hsub := sub_enumerate
    obtain ⟨⟨c, dct, dt, sl⟩, hl, hc, n, hd⟩ := id hL
    replace hc : c = .type "tuple" := hc
    replace hd : dt = .seq items n := hd
    subst hc hd
    wp_walk using wpAny_loadPart' hl
    refine wpAny_stack_any fun st => wpAny_pure ?_
    split
    · rename_i c _ _ _ _ _
      cases (c == Value.type "enumerate")
      · wp_walk using wpAny_loadPart' hl, wpAny_pyIter_tuple hL
        exact ⟨_, rfl, h⟩
      · wp_walk using wpAny_loadPart' hl, wpAny_pyIter_tuple hL
        exact ⟨_, rfl, h⟩
    · wp_walk using wpAny_loadPart' hl, wpAny_pyIter_tuple hL
      exact ⟨_, rfl, h⟩
section
variable {prog : Program} {w : World} {A : Around} {E : Value → Shared → Prop} {s : Shared}
theorem call_enumerate_tuple {l : Addr} {items : Array Value} {Q : Value → Shared → Prop} (hL : s.heap.IsTuple l items)
    (h : ∀ h', IsEnum h' (s.heap.objs.size + 1) s.heap.objs.size 0 .none → h'.IsTupleIter s.heap.objs.size l 0 → h'.objs.size = s.heap.objs.size + 2 →
      (∀ b o, s.heap.get? b = some o → h'.get? b = some o) → Q (.ref (s.heap.objs.size + 1)) { s with heap := h' }) :
    wpAny (model prog w) A (call (.type "enumerate") [.ref l]) Q E s := by
  refine callType_new F.called_enumerate (by decide) (F.typeCall_enumerate_1 _) (F.newCall_enumerate_1 _) (fun obj => F.args_object_init_2 obj _) F.entry_enumerate_new
    (meets_enumerate_newT l items) ⟨hL, ?_⟩
  have hz : (s.heap.push { cls := .type "tuple_iterator", data := .fields #[.ref l, .int 0 0] }).objs.size = s.heap.objs.size + 1 := Heap.size_push ..
  show _ ∧ _
  rw [hz]
  have he : IsEnum ((s.heap.push { cls := .type "tuple_iterator", data := .fields #[.ref l, .int 0 0] }).push
      { cls := .type "enumerate", data := .fields #[.none, .bool false, .ref s.heap.objs.size, rawInt 0, .none, .none] }) (s.heap.objs.size + 1) s.heap.objs.size 0 .none := by
    have := Heap.get?_push_size (s.heap.push { cls := .type "tuple_iterator", data := .fields #[.ref l, .int 0 0] })
      (o := { cls := .type "enumerate", data := .fields #[.none, .bool false, .ref s.heap.objs.size, rawInt 0, .none, .none] }) rfl
    rw [hz] at this; exact this
  refine ⟨⟨_, he, rfl⟩, h _ he ⟨_, Heap.get?_push_of_some _ (Heap.get?_push_size _ rfl), rfl, rfl⟩ (by rw [Heap.size_push, hz]) fun b o x => Heap.get?_push_of_some _ (Heap.get?_push_of_some _ x)⟩
theorem pyNext_enumT_end {e it l : Addr} {i : Nat} {items : Array Value} {old : Value} {Q : Option Value → Shared → Prop} (hh : A.handled = none)
    (he : IsEnum s.heap e it i old) (hit : s.heap.IsTupleIter it l i) (hl : s.heap.IsTuple l items) (hx : items[i]? = none)
    (hQ : ∀ h', Heap.ExtBut it s.heap h' → Q none { s with heap := h' }) : wpAny (model prog w) A (pyNext (.ref e)) Q E s := by
  have hT : s.TypeIs (.ref e) "enumerate" := ⟨_, he, rfl⟩
  unfold pyNext
  refine wpAny_bind (wpAny_attempt (wpAny_callSpecial?_slot (name := Str.ofString "__next__") hT F.slot_enumerate_next
    (wpAny_call_entry F.slot_enumerate_next hT F.entry_enumerate_next ?_ (F.args_enumerate_next_1 _))))
  show wpAny _ _ (field (.ref e) 2 >>= _) _ _ _
  refine wpAny_bind (wpAny_field he rfl (x := .ref it) rfl ?_)
  refine wpAny_bind (wpAny_nextOf_tuple_end hh hit hl hx fun h' x he' hx' => ?_)
  obtain ⟨o, ho, hc⟩ := hx'
  refine wpAny_bind (wpAny_isInstance (T := "StopIteration") (b := true) ⟨o, ho, hc⟩ isSubtype_stop ?_)
  exact wpAny_pure (hQ _ he')
end
end PySem
namespace Og
open PySem PySem.Spec PyProof.Rows L2
/-- enumerate(tuple) -/
def IteT (K : PySem.W.Frag) (a : Addr) : It :=
  ⟨fun i H => ∃ (xs : List V) (x : V), SqT K H a xs ∧ xs[i]? = some x, fun i H v H' => ∃ T x, v = .ref T ∧ H T = none ∧ H' = upd H T (.tup [.int (i : Nat), x]) ∧ ∀ xs, SqT K H a xs → xs[i]? = some x, fun i H => ∃ xs : List V, SqT K H a xs ∧ xs.length ≤ i⟩
theorem turn_enumT {P : Program} {w : World} {K : PySem.W.Frag} {elts : List Expr} {kk : Nat} {tpos : Pos} (a e it : Addr) (hai : a ≠ it) (hae : a ≠ e) :
    Turn P w K (.Tuple elts kk tpos) (IteT K a) [e, it] e (fun i h => (∃ old, IsEnum h e it ((i : Nat) : Int) old) ∧ h.IsTupleIter it a i ∧ e ≠ it) where
  mem := by simp
  obj := fun i h st b hb => by
    obtain ⟨⟨old, he⟩, ⟨o, ho, hc, hd⟩, _⟩ := st
    have e' : b = e ∨ b = it := by simpa using hb
    rcases e' with z | z
    · rw [z]; exact ⟨_, he, fun v q => nomatch q⟩
    · rw [z]; exact ⟨o, ho, fun v q => by rw [hd] at q; cases q⟩
  keep := fun i h h' st k => let ⟨⟨old, he⟩, hi, hne⟩ := st; ⟨⟨old, k e (by simp) _ he⟩, hi.at fun o q => k it (by simp) o q, hne⟩
  item := by
    intro X hP hw hK hc i pins s σ H E I hf st hg
    subst hP hw hK
    obtain ⟨⟨old, he⟩, hit, hne⟩ := st
    obtain ⟨xs, x, hq, hx⟩ := hg
    obtain ⟨its, rv, p, hz⟩ := I.tuple hq
    obtain ⟨u, hu, ru⟩ := rv.get hx
    have hel : e < s.heap.objs.size := Heap.lt_size he
    have hil : it < s.heap.objs.size := by obtain ⟨_, q, _⟩ := hit; exact Heap.lt_size q
    have hlt : i < its.toArray.size := by
      have := (List.getElem?_eq_some_iff.mp hu).1
      simpa using this
    have D := Draws.tuple (prog := X.prog) (w := X.w) (A := X.A.in1) (I.ok.hd hc) it a hai its.toArray
    refine wpAny_pyNext_enum_itemD D he ⟨hit, p⟩ hlt hne (by simp only [List.mem_cons, List.not_mem_nil, or_false, not_or]; exact ⟨hne, Ne.symm hae⟩) fun x' h' tk hx' ho hit' hT hsz hk => ?_
    have ex : x' = u := by
      have z1 : its[i]? = some x' := by simpa using hx'
      rw [hu] at z1; cases z1; rfl
    subst ex
    refine ⟨_, rfl, wpAny_letOwnedTupleGo_enum (s := { s with heap := h', toks := tk + 1 }) ho fun h'' he' sb => ?_⟩
    have hT2 : h''.get? s.heap.objs.size = some { cls := .type "tuple", data := .seq #[.int i tk, x'] } := (sb.2 _ (Nat.ne_of_gt hel)).trans hT
    have new : ObjOk X.prog X.w (upd H s.heap.objs.size (.tup [.int (i : Nat), x])) h'' s.heap.objs.size (.tup [.int (i : Nat), x]) :=
      ⟨by show 2 ≤ sizeLine; decide, [.int i tk, x'], .cons ⟨_, rfl⟩ (.cons ru .nil), ⟨_, hT2, rfl, _, rfl⟩⟩
    have I1 : Inv X pins σ (upd H s.heap.objs.size (.tup [.int (i : Nat), x])) { s with heap := h'', toks := tk + 1 } :=
      I.turnedNew (ch := [e, it]) (fun b ob hb q => (sb.2 b (fun z => hb (by simp [z]))).trans (hk b ob (fun z => hb (by simp [z])) (fun z => hb (by simp [z])) q)) hf (Nat.le_refl _) new
    refine ⟨.ref s.heap.objs.size, _, I1, rfl, ⟨_, x, rfl, I.hok.fresh (Nat.le_refl _), rfl, fun ys hy => by rw [I.tuple_inj hy hq]; exact hx⟩, ⟨⟨x', ?_⟩, hit'.1.at fun o q => (sb.2 it (Ne.symm hne)).trans q, hne⟩, fun b hb => ?_⟩
    · have e1 : ((i + 1 : Nat) : Int) = (i : Int) + 1 := by omega
      rw [e1]; exact he'
    · have hb' : b < s.heap.objs.size := by
        have e' : b = e ∨ b = it := by simpa using hb
        rcases e' with z | z
        · rw [z]; exact hel
        · rw [z]; exact hil
      rw [upd_ne (Nat.ne_of_lt hb')]
      exact (hf b hb).1
  done := by
    intro X hP hw hK hc i pins s σ H E I hf st hg
    subst hP hw hK
    obtain ⟨⟨old, he⟩, hit, hne⟩ := st
    obtain ⟨xs, hq, hx⟩ := hg
    obtain ⟨its, rv, p, hz⟩ := I.tuple hq
    obtain ⟨f0, f1, f2, f3, f4, f5⟩ := hf it (by simp)
    have hl := rv.length
    exact pyNext_enumT_end (I.ok.hd hc) he hit p (by simp; omega) fun h' eb => ⟨rfl, I.turned (t' := s.toks) (fun b o hb q => eb b o hb q) f0 f1 f3 f4 f5⟩
  self := fun A i s Q E st h => let ⟨⟨_, he⟩, _⟩ := st; wpAny_pyIter_enum he h
def iEnumT (K : PySem.W.Frag) (ta : TA) : TI := fun σ H R => ta σ H fun vs H1 => ∃ a xs, vs = [.ref a] ∧ SqT K H1 a xs ∧ R (IteT K a) H1
theorem pi_enumT {X : Cx} {e : Expr} {ta : TA} {p pos tpos : Pos} {elts : List Expr} {kk : Nat} (hg : Gl X "enumerate") (hm : X.mg "enumerate" = none) (ha : PA X [e] ta) (hs : starEach [e] X.env = [(false, eval e X.env)] := by rfl) :
    PI X (.Tuple elts kk tpos) (.Call (.Name "enumerate" p) [e] [] pos) (iEnumT X.K ta) := by
  refine ⟨fun pins s σ H R I h => ?_⟩
  refine Call_ (ld_blt I hg hm boot_enumerate (PyProof.Rows.callWith_type1 (thn (ha.run pos pins s σ H _ I h) fun us s1 ⟨vs, H1, I1, r1, q1⟩ => ?_) hs rfl))
  obtain ⟨a, xs, ex, hq, q⟩ := q1
  subst ex
  cases r1 with
  | cons r rr =>
    cases rr
    cases r
    obtain ⟨its, rv, p', hz⟩ := I1.tuple hq
    obtain ⟨oa, hoa, _⟩ := id p'
    have la : a < s1.heap.objs.size := Heap.lt_size hoa
    refine call_enumerate_tuple (show s1.heap.IsTuple a its.toArray from p') fun h' he hit hsz hk => wpAny_pyIter_enum he ?_
    have I2 : Inv X pins σ H1 { s1 with heap := h' } := I1.kept (t' := s1.toks) hk
    refine ⟨s1.heap.objs.size + 1, [s1.heap.objs.size + 1, s1.heap.objs.size], _, _, H1, rfl, I2, turn_enumT a (s1.heap.objs.size + 1) s1.heap.objs.size (Nat.ne_of_lt la) (Nat.ne_of_lt (Nat.lt_succ_of_lt la)), ⟨⟨.none, he⟩, hit, Nat.succ_ne_self _⟩, fun b hb => ?_, q⟩
    have e' : b = s1.heap.objs.size + 1 ∨ b = s1.heap.objs.size := by simpa using hb
    have hle : s1.heap.objs.size ≤ b := by
      rcases e' with z | z
      · rw [z]; exact Nat.le_add_right _ _
      · rw [z]; exact Nat.le_refl _
    exact I1.fpOk hle (I1.hok.fresh hle)

/-! ### readings that go along -/
section
variable {c : Cf} {H H1 : Hp} {A A' : List Addr} {B : Addr → Prop}
def Al (A A' : List Addr) (H1 H : Hp) : Prop := (∀ a ∈ A', a ∈ A ∨ H1 a = none) ∧ ∀ a u, a ∉ A → H1 a = some u → H a = some u
theorem Al.out (s : Al A A' H1 H) {a : Addr} {u : HO} (n : a ∉ A) (e : H1 a = some u) : a ∉ A' := fun z => by
  rcases s.1 a z with z | z
  · exact n z
  · rw [z] at e; cases e
theorem Al.outR (s : Al A A' H1 H) {a : Addr} {u : HO} (n : a ∉ A) (e : L2.Rd H1 a u) : a ∉ A' := by
  rcases e with e | ⟨o, e⟩
  · exact s.out n e
  · exact s.out n e
theorem Al.rd (s : Al A A' H1 H) {a : Addr} {u : HO} (n : a ∉ A) (e : L2.Rd H1 a u) : L2.Rd H a u := by
  rcases e with e | ⟨o, e⟩
  · exact .inl (s.2 _ _ n e)
  · exact .inr ⟨o, s.2 _ _ n e⟩
theorem DcV.step {a : Addr} {ks : List D} {vs : List V} (s : Al A A' H1 H) (h : DcV c H1 A a ks vs) : DcV c H A' a ks vs := by
  rcases h with ⟨kvs, h, n, r⟩ | ⟨kvs, h, n, r⟩
  · exact .inl ⟨kvs, ⟨s.rd n h.1, fun z => s.2 _ _ n (h.2 z)⟩, s.outR n h.1, r⟩
  · exact .inr ⟨kvs, ⟨s.rd n h.1, fun z => s.2 _ _ n (h.2 z)⟩, s.outR n h.1, r⟩
mutual
theorem Rv.step (s : Al A A' H1 H) : ∀ {v : V} {d : D}, Rv c H1 A v d → Rv c H A' v d
  | _, _, .non => .non
  | _, _, .bl b => .bl b
  | _, _, .int i => .int i
  | _, _, .str x => .str x
  | _, _, .lst h n r => .lst (s.2 _ _ n h) (s.out n h) (RvL.step s r)
  | _, _, .tup h r => .tup ⟨s.2 _ _ h.2 h.1, s.out h.2 h.1⟩ (RvL.step s r)
  | _, _, .dic h r => .dic (h.step s) (RvL.step s r)
theorem RvL.step (s : Al A A' H1 H) : ∀ {v : List V} {d : List D}, RvL c H1 A v d → RvL c H A' v d
  | _, _, .nil => .nil
  | _, _, .cons r t => .cons (Rv.step s r) (RvL.step s t)
end
/-- the iterator J walks ys; B: what may change meanwhile -/
def Gs (c : Cf) (A : List Addr) (B : Addr → Prop) (H1 : Hp) (J : It) (ys : List D) : Prop :=
  ∀ (A' : List Addr) (H : Hp) (i : Nat), (∀ a ∈ A', a ∈ A ∨ H1 a = none) → (∀ a ∈ A', ∃ o, H a = some o) → (∀ a u, ¬ B a → H1 a = some u → H a = some u) →
    (∀ y, nth ys i = some y → J.go i H ∧ ∀ x H', J.yld i H x H' → (∀ a u, H a = some u → H' a = some u) ∧ Rv c H' A' x y) ∧ (ys.length ≤ i → J.stop i H)
/-- a thing that may be walked: it stays where nothing of B changes -/
inductive Sy (c : Cf) (H : Hp) (A : List Addr) (B : Addr → Prop) : V → D → Prop
  | lst {a : Addr} {xs : List V} {ds : List D} : H a = some (.lst xs) → ¬ B a → RvL c H A xs ds → Sy c H A B (.ref a) (.list ds)
  | tup {a : Addr} {xs : List V} {ds : List D} : (∀ H', (∀ a u, ¬ B a → H a = some u → H' a = some u) → SqT c.K H' a xs) → RvL c H A xs ds → Sy c H A B (.ref a) (.tuple ds)
  | int (i : Int) : Sy c H A B (.int i) (.int i)
  | oth {v : V} {d : D} : (∀ l, d ≠ .list l) → (∀ l, d ≠ .tuple l) → (∀ i, d ≠ .int i) → Sy c H A B v d
inductive SyL (c : Cf) (H : Hp) (A : List Addr) (B : Addr → Prop) : List V → List D → Prop
  | nil : SyL c H A B [] []
  | cons {v : V} {vs : List V} {d : D} {ds : List D} : Sy c H A B v d → SyL c H A B vs ds → SyL c H A B (v :: vs) (d :: ds)
theorem Sy.rv {v : V} {d : D} (hB : ∀ a, B a → a ∈ A) (r : Rv c H A v d) : Sy c H A B v d := by
  cases r with
  | lst e n r => exact .lst e (fun z => n (hB _ z)) r
  | tup h r => exact .tup (fun H' k => SqT.of (k _ _ (fun z => h.2 (hB _ z)) h.1)) r
  | int i => exact .int i
  | _ => exact .oth (by intro l z; cases z) (by intro l z; cases z) (by intro l z; cases z)
theorem Sy.gw {a : Addr} {d : D} (g : Gw c a d) : Sy c H A B (.ref a) d := by
  cases g with
  | tup h p => exact .tup (fun H' _ => .inr h) (scs_rv p)
  | dic => exact .oth (by intro l z; cases z) (by intro l z; cases z) (by intro l z; cases z)
theorem Sy.wr {v : V} {d : D} (b : Bin c.bx A) (r : Wr c H A v d) : Sy c H A (fun a => c.bx = some a) v d := by
  rcases r with r | ⟨a, rfl, n, o⟩ | ⟨a, rfl, g⟩
  · exact .rv (fun a z => b a z) r
  · cases o with
    | lst e r => exact .lst e (fun z => n z.symm) r
    | _ => exact .oth (by intro l z; cases z) (by intro l z; cases z) (by intro l z; cases z)
  · exact .gw g
theorem SyL.wr (b : Bin c.bx A) : ∀ {v : List V} {d : List D}, WrL c H A v d → SyL c H A (fun a => c.bx = some a) v d
  | _, _, .nil => .nil
  | _, _, .cons r t => .cons (Sy.wr b r) (SyL.wr b t)
theorem SyL.steady : ∀ {vs : List V} {xs : List Og.Arg} {l : List D}, ArL c H A vs xs → steadys xs = some l → SyL c H A (· ∈ A) vs l
  | _, _, l, .nil, e => by simp [Og.steadys] at e; subst e; exact .nil
  | _, _, l, .cons (d := x) r t, e => by
    cases x with
    | box => simp [Og.steadys] at e
    | d x f =>
      cases f with
      | wk => simp [Og.steadys] at e
      | ct =>
        simp only [Og.steadys] at e
        split at e
        · rename_i l' e'; cases e; obtain ⟨a, rfl, g⟩ := r; exact .cons (.gw g) (SyL.steady t e')
        · cases e
      | pl =>
        simp only [Og.steadys] at e
        split at e
        · rename_i l' e'; cases e; exact .cons (.rv (fun _ z => z) r) (SyL.steady t e')
        · cases e
      | fr =>
        simp only [Og.steadys] at e
        split at e
        · rename_i l' e'; cases e; exact .cons (.rv (fun _ z => z) r) (SyL.steady t e')
        · cases e
theorem nth_lt {ys : List D} {i : Nat} {y : D} (e : nth ys i = some y) : ys[i]? = some y := by rw [← nth_get]; exact e
theorem gs_al {H1 H : Hp} (hB : ∀ a, B a → a ∈ A) (s : ∀ a ∈ A', a ∈ A ∨ H1 a = none) (k : ∀ a u, ¬ B a → H1 a = some u → H a = some u) : Al A A' H1 H := ⟨s, fun a u n e => k a u (fun z => n (hB a z)) e⟩
theorem gs_list {a : Addr} {xs : List V} {ds : List D} (hB : ∀ a, B a → a ∈ A) (e : H1 a = some (.lst xs)) (nb : ¬ B a) (r : RvL c H1 A xs ds) : Gs c A B H1 (Itl c.K a) ds := by
  intro A' H i s d k
  have q : SqL c.K H a xs := SqL.of (k _ _ nb e)
  have r' : RvL c H A' xs ds := r.step (gs_al hB s k)
  refine ⟨fun y ey => ?_, fun h => ⟨xs, q, by rw [r.length]; exact h⟩⟩
  obtain ⟨v, hv, rv⟩ := r'.get ey
  refine ⟨⟨xs, v, q, hv⟩, fun x H' yl => ?_⟩
  obtain ⟨rfl, yl⟩ := yl
  have := yl xs q
  rw [hv] at this; cases this
  exact ⟨fun _ _ z => z, rv⟩
theorem gs_tup {a : Addr} {xs : List V} {ds : List D} (hB : ∀ a, B a → a ∈ A) (e : ∀ H', (∀ a u, ¬ B a → H1 a = some u → H' a = some u) → SqT c.K H' a xs) (r : RvL c H1 A xs ds) : Gs c A B H1 (Itt c.K a) ds := by
  intro A' H i s d k
  have q : SqT c.K H a xs := e H k
  have r' : RvL c H A' xs ds := r.step (gs_al hB s k)
  refine ⟨fun y ey => ?_, fun h => ⟨xs, q, by rw [r.length]; exact h⟩⟩
  obtain ⟨v, hv, rv⟩ := r'.get ey
  refine ⟨⟨xs, v, q, hv⟩, fun x H' yl => ?_⟩
  obtain ⟨rfl, yl⟩ := yl
  have := yl xs q
  rw [hv] at this; cases this
  exact ⟨fun _ _ z => z, rv⟩
theorem rng_nth : ∀ {n : Nat} {lo : Int} {i : Nat} {y : D}, nth (rngN n lo) i = some y → i < n ∧ y = .int (lo + i)
  | 0, _, _, _, e => by simp [rngN, nth] at e
  | n + 1, lo, 0, y, e => by
    simp [rngN, iF_eq, nth] at e; subst e; exact ⟨Nat.succ_pos _, by simp⟩
  | n + 1, lo, i + 1, y, e => by
    simp only [rngN, iF_eq, nth] at e
    obtain ⟨h1, h2⟩ := rng_nth e
    refine ⟨Nat.succ_lt_succ h1, ?_⟩
    rw [h2]
    have : lo + 1 + (i : Int) = lo + ((i + 1 : Nat) : Int) := by omega
    rw [this]
theorem rng_len : ∀ {n : Nat} {lo : Int}, (rngN n lo).length = n
  | 0, _ => rfl
  | n + 1, lo => by simp [rngN, iF_eq, rng_len]
theorem rngC_nth {st : Int} : ∀ {n : Nat} {lo : Int} {i : Nat} {y : D}, nth (rngC n lo st) i = some y → i < n ∧ y = .int (lo + (i : Nat) * st)
  | 0, _, _, _, e => by simp [rngC, nth] at e
  | n + 1, lo, 0, y, e => by
    simp [rngC, iF_eq, nth] at e; subst e; exact ⟨Nat.succ_pos _, by simp⟩
  | n + 1, lo, i + 1, y, e => by
    simp only [rngC, iF_eq, nth] at e
    obtain ⟨h1, h2⟩ := rngC_nth e
    refine ⟨Nat.succ_lt_succ h1, ?_⟩
    rw [h2]
    have : lo + st + (i : Int) * st = lo + ((i + 1 : Nat) : Int) * st := by
      have e1 : ((i + 1 : Nat) : Int) = (i : Int) + 1 := by omega
      rw [e1, Int.add_mul, Int.one_mul]
      omega
    rw [this]
theorem rngC_len {st : Int} : ∀ {n : Nat} {lo : Int}, (rngC n lo st).length = n
  | 0, _ => rfl
  | n + 1, lo => by simp [rngC, iF_eq, rngC_len]
theorem gs_rng {lo : Int} {n : Nat} : Gs c A B H1 (Itr lo n) (rngN n lo) := by
  intro A' H i s d k
  refine ⟨fun y ey => ?_, fun h => by rw [rng_len] at h; exact h⟩
  obtain ⟨h1, rfl⟩ := rng_nth ey
  exact ⟨h1, fun x H' ⟨e1, e2⟩ => by subst e1 e2; exact ⟨fun _ _ z => z, .int _⟩⟩
theorem gs_rngC {lo st : Int} {n : Nat} : Gs c A B H1 (Itc lo st n) (rngC n lo st) := by
  intro A' H i s d k
  refine ⟨fun y ey => ?_, fun h => by rw [rngC_len] at h; exact h⟩
  obtain ⟨h1, rfl⟩ := rngC_nth ey
  exact ⟨h1, fun x H' ⟨e1, e2⟩ => by subst e1 e2; exact ⟨fun _ _ z => z, .int _⟩⟩
theorem enum_nth : ∀ {ds : List D} {k : Int} {i : Nat} {y : D}, nth (enumD k ds) i = some y → ∃ d, nth ds i = some d ∧ y = .tuple [.int (k + i), d]
  | [], _, _, _, e => by simp [enumD, nth] at e
  | x :: r, k, 0, y, e => by simp [enumD, iF_eq, nth] at e; subst e; exact ⟨x, rfl, by simp⟩
  | x :: r, k, i + 1, y, e => by
    simp only [enumD, iF_eq, nth] at e
    obtain ⟨d, h1, h2⟩ := enum_nth e
    refine ⟨d, h1, ?_⟩
    rw [h2]
    have : k + 1 + (i : Int) = k + ((i + 1 : Nat) : Int) := by omega
    rw [this]
theorem enum_len : ∀ {ds : List D} {k : Int}, (enumD k ds).length = ds.length
  | [], _ => rfl
  | _ :: r, k => by simp [enumD, iF_eq, enum_len]
theorem newP {p : Addr} {o : HO} {v : V} {d : D} (hp : H p = none) (r : Rv c H A v d) : Rv c (upd H p o) A v d :=
  r.step ⟨fun a z => .inl z, fun a u _ e => by rw [upd_ne (ne_of_none e hp)]; exact e⟩
theorem pair_rv {T : Addr} {x y : V} {dx dy : D} (d : ∀ a ∈ A, ∃ o, H a = some o) (hT : H T = none) (rx : Rv c H A x dx) (ry : Rv c H A y dy) : (∀ a u, H a = some u → (upd H T (.tup [x, y])) a = some u) ∧ Rv c (upd H T (.tup [x, y])) A (.ref T) (.tuple [dx, dy]) := by
  refine ⟨fun a u e => by rw [upd_ne (ne_of_none e hT)]; exact e, .tup ⟨upd_same .., fun z => ?_⟩ (.cons (newP hT rx) (.cons (newP hT ry) .nil))⟩
  obtain ⟨o, e⟩ := d T z
  rw [hT] at e; cases e
theorem gs_enumL {a : Addr} {xs : List V} {ds : List D} (hB : ∀ a, B a → a ∈ A) (e : H1 a = some (.lst xs)) (nb : ¬ B a) (r : RvL c H1 A xs ds) : Gs c A B H1 (Ite c.K a) (enumD 0 ds) := by
  intro A' H i s d k
  have q : SqL c.K H a xs := SqL.of (k _ _ nb e)
  have r' : RvL c H A' xs ds := r.step (gs_al hB s k)
  refine ⟨fun y ey => ?_, fun h => ⟨xs, q, by rw [r.length]; rw [enum_len] at h; exact h⟩⟩
  obtain ⟨dd, e1, rfl⟩ := enum_nth ey
  obtain ⟨v, hv, rv⟩ := r'.get e1
  refine ⟨⟨xs, v, q, hv⟩, fun x H' yl => ?_⟩
  obtain ⟨T, x', rfl, hT, rfl, yl⟩ := yl
  have := yl xs q
  rw [hv] at this; cases this
  have e0 : (0 : Int) + (i : Int) = ((i : Nat) : Int) := by omega
  rw [e0]
  exact pair_rv d hT (.int _) rv
theorem gs_enumT {a : Addr} {xs : List V} {ds : List D} (hB : ∀ a, B a → a ∈ A) (e : ∀ H', (∀ a u, ¬ B a → H1 a = some u → H' a = some u) → SqT c.K H' a xs) (r : RvL c H1 A xs ds) : Gs c A B H1 (IteT c.K a) (enumD 0 ds) := by
  intro A' H i s d k
  have q : SqT c.K H a xs := e H k
  have r' : RvL c H A' xs ds := r.step (gs_al hB s k)
  refine ⟨fun y ey => ?_, fun h => ⟨xs, q, by rw [r.length]; rw [enum_len] at h; exact h⟩⟩
  obtain ⟨dd, e1, rfl⟩ := enum_nth ey
  obtain ⟨v, hv, rv⟩ := r'.get e1
  refine ⟨⟨xs, v, q, hv⟩, fun x H' yl => ?_⟩
  obtain ⟨T, x', rfl, hT, rfl, yl⟩ := yl
  have := yl xs q
  rw [hv] at this; cases this
  have e0 : (0 : Int) + (i : Int) = ((i : Nat) : Int) := by omega
  rw [e0]
  exact pair_rv d hT (.int _) rv
theorem zip_nth : ∀ {ds es : List D} {i : Nat} {y : D}, nth (zipD ds es) i = some y → ∃ d e, nth ds i = some d ∧ nth es i = some e ∧ y = .tuple [d, e]
  | [], _, _, _, e => by simp [zipD, nth] at e
  | _ :: _, [], _, _, e => by simp [zipD, nth] at e
  | x :: r, y :: t, 0, z, e => by simp [zipD, nth] at e; subst e; exact ⟨x, y, rfl, rfl, rfl⟩
  | x :: r, y :: t, i + 1, z, e => by
    simp only [zipD, nth] at e
    have h := zip_nth (ds := r) (es := t) (i := i) (y := z) e
    simpa [nth] using h
theorem zip_len : ∀ {ds es : List D}, (zipD ds es).length = min ds.length es.length
  | [], _ => by simp [zipD]
  | _ :: _, [] => by simp [zipD]
  | _ :: r, _ :: t => by simp [zipD, zip_len]
theorem gs_zipL {a b : Addr} {xs ys : List V} {ds es : List D} (hB : ∀ a, B a → a ∈ A) (e : H1 a = some (.lst xs)) (nb : ¬ B a) (r : RvL c H1 A xs ds) (e2 : H1 b = some (.lst ys)) (nb2 : ¬ B b) (r2 : RvL c H1 A ys es) :
    Gs c A B H1 (Itz c.K a b) (zipD ds es) := by
  intro A' H i s d k
  have q : SqL c.K H a xs := SqL.of (k _ _ nb e)
  have q2 : SqL c.K H b ys := SqL.of (k _ _ nb2 e2)
  have r' : RvL c H A' xs ds := r.step (gs_al hB s k)
  have r2' : RvL c H A' ys es := r2.step (gs_al hB s k)
  refine ⟨fun y ey => ?_, fun h => ⟨xs, ys, q, q2, by rw [r.length, r2.length]; rw [zip_len] at h; omega⟩⟩
  obtain ⟨dd, de, e1, e3, rfl⟩ := zip_nth ey
  obtain ⟨v, hv, rv⟩ := r'.get e1
  obtain ⟨v2, hv2, rv2⟩ := r2'.get e3
  refine ⟨⟨xs, ys, v, v2, q, q2, hv, hv2⟩, fun x H' yl => ?_⟩
  obtain ⟨T, x', y', rfl, hT, rfl, yl, yl2⟩ := yl
  have := yl xs q
  rw [hv] at this; cases this
  have := yl2 ys q2
  rw [hv2] at this; cases this
  exact pair_rv d hT rv rv2
theorem gs_zipT {a b : Addr} {xs ys : List V} {ds es : List D} (hB : ∀ a, B a → a ∈ A) (e : ∀ H', (∀ a u, ¬ B a → H1 a = some u → H' a = some u) → SqT c.K H' a xs) (r : RvL c H1 A xs ds)
    (e2 : ∀ H', (∀ a u, ¬ B a → H1 a = some u → H' a = some u) → SqT c.K H' b ys) (r2 : RvL c H1 A ys es) :
    Gs c A B H1 (RZ.ItzT c.K a b) (zipD ds es) := by
  intro A' H i s d k
  have q : SqT c.K H a xs := e H k
  have q2 : SqT c.K H b ys := e2 H k
  have r' : RvL c H A' xs ds := r.step (gs_al hB s k)
  have r2' : RvL c H A' ys es := r2.step (gs_al hB s k)
  refine ⟨fun y ey => ?_, fun h => ⟨xs, ys, q, q2, by rw [r.length, r2.length]; rw [zip_len] at h; omega⟩⟩
  obtain ⟨dd, de, e1, e3, rfl⟩ := zip_nth ey
  obtain ⟨v, hv, rv⟩ := r'.get e1
  obtain ⟨v2, hv2, rv2⟩ := r2'.get e3
  refine ⟨⟨xs, ys, v, v2, q, q2, hv, hv2⟩, fun x H' yl => ?_⟩
  obtain ⟨T, x', y', rfl, hT, rfl, yl, yl2⟩ := yl
  have := yl xs q
  rw [hv] at this; cases this
  have := yl2 ys q2
  rw [hv2] at this; cases this
  exact pair_rv d hT rv rv2
end

/-! ### PI -/
def tIt (c : Cf) (A : List Addr) (B : Addr → Prop) (σ : Sl) (h : Hist) (ys : List D) (h' : Hist) : TI := fun σV H R =>
  SsR c H A σ σV ∧ Wd c H A h ∧ ∀ J H', Kp c.bx H H' → Wd c H' A h' → Gs c A B H' J ys → R J H'
/-- the arguments of a walk, by the way they may be walked -/
def tSyL (c : Cf) (A : List Addr) (B : Addr → Prop) (σ : Sl) (h : Hist) (l : List D) (h' : Hist) : TA := fun σV H Q =>
  SsR c H A σ σV ∧ Wd c H A h ∧ ∀ vs H', Kp c.bx H H' → Wd c H' A h' → SyL c H' A B vs l → Q vs H'
def tSy1 (c : Cf) (A : List Addr) (B : Addr → Prop) (σ : Sl) (h : Hist) (d : D) (h' : Hist) : TE := fun σV H Q =>
  SsR c H A σ σV ∧ Wd c H A h ∧ ∀ v H', Kp c.bx H H' → Wd c H' A h' → Sy c H' A B v d → Q v H'
end Og
namespace L2
open PySem
theorem PI.mono {X : Cx} {tg e : Expr} {t t' : TI} (h : PI X tg e t) (i : ∀ σ H R, t' σ H R → t σ H R) : PI X tg e t' := ⟨fun pins s σ H R I q => h.run pins s σ H R I (i _ _ _ q)⟩
theorem PE.mono {X : Cx} {e : Expr} {t t' : TE} (h : PE X e t) (i : ∀ σ H R, t' σ H R → t σ H R) : PE X e t' := ⟨fun pins s σ H R I q => h.run pins s σ H R I (i _ _ _ q)⟩
theorem PT.mono {X : Cx} {e : Expr} {t t' : TT} (h : PT X e t) (i : ∀ σ H R, t' σ H R → t σ H R) : PT X e t' := ⟨fun pins s σ H R I q => h.run pins s σ H R I (i _ _ _ q)⟩
theorem PA.mono {X : Cx} {e : List Expr} {t t' : TA} (h : PA X e t) (i : ∀ σ H R, t' σ H R → t σ H R) : PA X e t' := ⟨fun pos pins s σ H R I q => h.run pos pins s σ H R I (i _ _ _ q)⟩
end L2
namespace Og
open PySem PySem.Spec PyProof.Rows L2
section
variable {X : Cx} {c : Cf} {A : List Addr} {B : Addr → Prop} {σ : Sl} {h h1 h' : Hist} {tg : Expr}
theorem walk_seq {e : Expr} {d : D} {ys : List D} (hK : X.K = c.K) (hB : ∀ a, B a → a ∈ A) (he : PE X e (tSy1 c A B σ h d h1)) (w : walkV .seq [d] h1 = .ok ys h') : PI X tg e (tIt c A B σ h ys h') := by
  cases d with
  | list l =>
    simp only [walkV, seqOf] at w
    cases w
    refine (pi_list he).mono fun σV H R ⟨q1, q2, q3⟩ => ⟨q1, q2, fun v H' k w s => ?_⟩
    cases s with
    | lst e nb r =>
      rw [hK]
      exact ⟨_, rfl, ⟨_, SqL.of e⟩, q3 _ _ k w (gs_list hB e nb r)⟩
    | oth h1 _ _ => exact absurd rfl (h1 _)
  | tuple l =>
    simp only [walkV, seqOf] at w
    cases w
    refine (pi_tup he).mono fun σV H R ⟨q1, q2, q3⟩ => ⟨q1, q2, fun v H' k w s => ?_⟩
    cases s with
    | tup e r =>
      rw [hK]
      exact ⟨_, rfl, ⟨_, e H' fun _ _ _ z => z⟩, q3 _ _ k w (gs_tup hB e r)⟩
    | oth _ h1 _ => exact absurd rfl (h1 _)
  | _ => simp [walkV, seqOf] at w
theorem SyL.one {H : Hp} {vs : List V} {d : D} (s : SyL c H A B vs [d]) : ∃ v, vs = [v] ∧ Sy c H A B v d := by
  cases s with
  | cons a b => cases b; exact ⟨_, rfl, a⟩
theorem SyL.two {H : Hp} {vs : List V} {d e : D} (s : SyL c H A B vs [d, e]) : ∃ v u, vs = [v, u] ∧ Sy c H A B v d ∧ Sy c H A B u e := by
  cases s with
  | cons a b => cases b with
    | cons b t => cases t; exact ⟨_, _, rfl, a, b⟩
theorem SyL.three {H : Hp} {vs : List V} {d e f : D} (s : SyL c H A B vs [d, e, f]) : ∃ v u x, vs = [v, u, x] ∧ Sy c H A B v d ∧ Sy c H A B u e ∧ Sy c H A B x f := by
  cases s with
  | cons a b => cases b with
    | cons b t => cases t with
      | cons t z => cases z; exact ⟨_, _, _, rfl, a, b, t⟩
theorem Sy.intv {H : Hp} {v : V} {i : Int} (s : Sy c H A B v (.int i)) : v = .int i := by
  cases s with
  | int => rfl
  | oth _ _ h => exact absurd rfl (h _)
theorem walk_rng1 {a : Expr} {l : List D} {ys : List D} {p pos : Pos} (hg : Gl X "range") (hm : X.mg "range" = none) (ha : PA X [a] (tSyL c A B σ h l h1)) (w : walkV .rng1 l h1 = .ok ys h')
    (hs : starEach [a] X.env = [(false, eval a X.env)]) : PI X tg (.Call (.Name "range" p) [a] [] pos) (tIt c A B σ h ys h') := by
  unfold walkV at w
  split at w <;> try (cases w; done)
  all_goals (rename_i e2; cases e2)
  rename_i n
  split at w
  · rename_i hw
    cases w
    have hw := wide_iff hw
    refine (pi_range1 hg hm ha hs).mono fun σV H R ⟨q1, q2, q3⟩ => ⟨q1, q2, fun vs H' k w s => ?_⟩
    obtain ⟨v, rfl, s1⟩ := s.one
    obtain rfl := s1.intv
    exact ⟨n, rfl, hw.1, hw.2, q3 _ _ k w gs_rng⟩
  · cases w
theorem walk_rng2 {a b : Expr} {l : List D} {ys : List D} {p pos : Pos} (hg : Gl X "range") (hm : X.mg "range" = none) (ha : PA X [a, b] (tSyL c A B σ h l h1)) (w : walkV .rng2 l h1 = .ok ys h')
    (hs : starEach [a, b] X.env = [(false, eval a X.env), (false, eval b X.env)]) (hs2 : starEach [b] X.env = [(false, eval b X.env)]) : PI X tg (.Call (.Name "range" p) [a, b] [] pos) (tIt c A B σ h ys h') := by
  unfold walkV at w
  split at w <;> try (cases w; done)
  all_goals (rename_i e2; cases e2)
  rename_i n m
  split at w
  · rename_i hw
    cases w
    rw [Bool.and_eq_true] at hw
    have hw1 := wide_iff hw.1
    have hw2 := wide_iff hw.2
    refine (pi_range2 hg hm ha hs hs2).mono fun σV H R ⟨q1, q2, q3⟩ => ⟨q1, q2, fun vs H' k w s => ?_⟩
    obtain ⟨v, u, rfl, s1, s2⟩ := s.two
    obtain rfl := s1.intv
    obtain rfl := s2.intv
    exact ⟨_, _, rfl, ⟨hw1.1, hw1.2, hw2.1, hw2.2⟩, q3 _ _ k w gs_rng⟩
  · cases w
theorem walk_rng3 {a b e : Expr} {l : List D} {ys : List D} {p pos : Pos} (hg : Gl X "range") (hm : X.mg "range" = none) (ha : PA X [a, b, e] (tSyL c A B σ h l h1)) (w : walkV .rng3 l h1 = .ok ys h')
    (hs : starEach [a, b, e] X.env = (false, eval a X.env) :: starEach [b, e] X.env) (hpl : (backTo pos (starEach [b, e] X.env)).any (·.1) = false) : PI X tg (.Call (.Name "range" p) [a, b, e] [] pos) (tIt c A B σ h ys h') := by
  unfold walkV at w
  split at w <;> try (cases w; done)
  all_goals (rename_i e2; cases e2)
  rename_i n m st
  split at w
  · rename_i hw
    cases w
    rw [Bool.and_eq_true, Bool.and_eq_true] at hw
    have hw1 := wide_iff hw.1.1
    have hw2 := wide_iff hw.1.2
    have hst : st = -1 := by
      have := hw.2
      rw [eqI_iff] at this
      exact of_decide_eq_true this
    subst hst
    refine (pi_range3 hg hm ha hs hpl).mono fun σV H R ⟨q1, q2, q3⟩ => ⟨q1, q2, fun vs H' k w s => ?_⟩
    obtain ⟨v, u, x, rfl, s1, s2, s3⟩ := s.three
    obtain rfl := s1.intv
    obtain rfl := s2.intv
    obtain rfl := s3.intv
    exact ⟨_, _, _, _, rfl, RgC.neg hw1.1 hw1.2 hw2.1 hw2.2, q3 _ _ k w gs_rngC⟩
  · cases w
theorem walk_enum {a : Expr} {l : List D} {ys : List D} {p pos tpos : Pos} {elts : List Expr} {kk : Nat} (hK : X.K = c.K) (hB : ∀ a, B a → a ∈ A) (hg : Gl X "enumerate") (hm : X.mg "enumerate" = none) (ha : PA X [a] (tSyL c A B σ h l h1)) (w : walkV .enum l h1 = .ok ys h')
    (hs : starEach [a] X.env = [(false, eval a X.env)]) : PI X (.Tuple elts kk tpos) (.Call (.Name "enumerate" p) [a] [] pos) (tIt c A B σ h ys h') := by
  unfold walkV at w
  split at w <;> try (cases w; done)
  all_goals (rename_i e2; cases e2)
  rename_i d
  cases d with
  | list l =>
    simp only [seqOf] at w
    cases w
    refine (pi_enum hg hm ha hs).mono fun σV H R ⟨q1, q2, q3⟩ => ⟨q1, q2, fun vs H' k w s => ?_⟩
    obtain ⟨v, rfl, s1⟩ := s.one
    cases s1 with
    | lst e nb r =>
      rw [hK]
      exact ⟨_, _, rfl, SqL.of e, q3 _ _ k w (gs_enumL hB e nb r)⟩
    | oth h1 _ _ => exact absurd rfl (h1 _)
  | tuple l =>
    simp only [seqOf] at w
    cases w
    refine (pi_enumT hg hm ha hs).mono fun σV H R ⟨q1, q2, q3⟩ => ⟨q1, q2, fun vs H' k w s => ?_⟩
    obtain ⟨v, rfl, s1⟩ := s.one
    cases s1 with
    | tup e r =>
      rw [hK]
      exact ⟨_, _, rfl, e H' fun _ _ _ z => z, q3 _ _ k w (gs_enumT hB e r)⟩
    | oth _ h1 _ => exact absurd rfl (h1 _)
  | _ => simp [seqOf] at w
theorem walk_zip {a b : Expr} {l : List D} {ys : List D} {p pos tpos : Pos} {elts : List Expr} {kk : Nat} (hK : X.K = c.K) (hB : ∀ a, B a → a ∈ A) (hg : Gl X "zip") (hm : X.mg "zip" = none) (ha : PA X [a, b] (tSyL c A B σ h l h1)) (w : walkV .zip l h1 = .ok ys h')
    (hs : starEach [a, b] X.env = (false, eval a X.env) :: starEach [b] X.env) (hpl : (backTo pos (starEach [b] X.env)).any (·.1) = false) : PI X (.Tuple elts kk tpos) (.Call (.Name "zip" p) [a, b] [] pos) (tIt c A B σ h ys h') := by
  unfold walkV at w
  split at w <;> try (cases w; done)
  all_goals (rename_i e2; cases e2)
  rename_i dx dy
  split at w
  · cases w
    refine (RZ.pi_zipA hg hm ha hs hpl).mono fun σV H R ⟨q1, q2, q3⟩ => ⟨q1, q2, fun vs H' k w s => ?_⟩
    obtain ⟨v, u, rfl, s1, s2⟩ := s.two
    cases s1 with
    | lst e nb r =>
      cases s2 with
      | lst e2 nb2 r2 =>
        rw [hK]
        exact ⟨_, _, _, _, rfl, .inl ⟨SqL.of e, SqL.of e2, q3 _ _ k w (gs_zipL hB e nb r e2 nb2 r2)⟩⟩
      | oth h1 _ _ => exact absurd rfl (h1 _)
    | oth h1 _ _ => exact absurd rfl (h1 _)
  · cases w
    refine (RZ.pi_zipA hg hm ha hs hpl).mono fun σV H R ⟨q1, q2, q3⟩ => ⟨q1, q2, fun vs H' k w s => ?_⟩
    obtain ⟨v, u, rfl, s1, s2⟩ := s.two
    cases s1 with
    | tup e r =>
      cases s2 with
      | tup e2 r2 =>
        rw [hK]
        exact ⟨_, _, _, _, rfl, .inr ⟨e H' fun _ _ _ z => z, e2 H' fun _ _ _ z => z, q3 _ _ k w (gs_zipT hB e r e2 r2)⟩⟩
      | oth _ h1 _ => exact absurd rfl (h1 _)
    | oth _ h1 _ => exact absurd rfl (h1 _)
  · cases w
end
end Og

end
section
set_option Elab.async false
set_option linter.all false
set_option maxRecDepth 100000
/-! The rules of expressions, at the readings of the interpreter. -/
namespace Og
open PySem PySem.Spec PyProof.Rows L2
section
variable {X : Cx} {c : Cf} {A : List Addr} {σ : Sl} {h h1 h2 h3 h' : Hist} {x y z : D} {f g fl : Fl} {a b e : Expr} {es : List Expr} {pos : Pos}

theorem e_var {i : Nat} {s : Str} (hi : X.N[i]? = some s) (hv : Vis X.env.scope s) (hd : (s == ("__debug__" : Str)) = false) (hcd : (s == ("__classdict__" : Str)) = false)
    (ev : (match getS σ i with | some (.d x) => RE.ok x .pl h | some (.own x) => .ok x .wk h | _ => .no) = .ok x f h') : PE X (.Name s pos) (tEv c A σ h x f h') := by
  refine (pe_var hi hv hd hcd).mono fun σV H Q ⟨s, w, q⟩ => ?_
  cases hg : getS σ i with
  | none => rw [hg] at ev; cases ev
  | some sv =>
    obtain ⟨v, e1, r⟩ := s.at_ i _ hg
    rw [hg] at ev
    cases sv with
    | d x => cases ev; exact ⟨v, e1, q v H .refl w r⟩
    | own x => cases ev; exact ⟨v, e1, q v H .refl w r⟩
    | box => cases ev
/-- the box -/
def tBx (c : Cf) (A : List Addr) (σ : Sl) (h : Hist) : TE := fun σV H Q => SsR c H A σ σV ∧ Wd c H A h ∧ ∀ v, (∃ a, v = .ref a ∧ c.bx = some a) → Q v H
theorem e_box {i : Nat} {s : Str} (hi : X.N[i]? = some s) (hv : Vis X.env.scope s) (hd : (s == ("__debug__" : Str)) = false) (hcd : (s == ("__classdict__" : Str)) = false) (hg : getS σ i = some .box) : PE X (.Name s pos) (tBx c A σ h) := by
  refine (pe_var hi hv hd hcd).mono fun σV H Q ⟨s, w, q⟩ => ?_
  obtain ⟨v, e1, r⟩ := s.at_ i _ hg
  exact ⟨v, e1, q v r⟩
theorem e_con {v : V} (h1 : PE X e (tC v)) (r : ∀ H, Rv c H A v x) : PE X e (tEv c A σ h x .pl h) :=
  h1.mono fun σV H Q ⟨_, w, q⟩ => q v H .refl w (r H)
theorem e_glo {v : V} (h1 : PE X e (tC v)) (r : ∃ a, v = .ref a ∧ Gw c a x) : PE X e (tEv c A σ h x .ct h) :=
  h1.mono fun σV H Q ⟨_, w, q⟩ => q v H .refl w r
/-! ### arguments -/
theorem a_nil : PA X [] (tEvs c A σ h [] h) := pa_nil.mono fun σV H Q ⟨_, w, q⟩ => q [] H .refl w .nil
theorem a_cons {xs : List Og.Arg} (he : PE X e (tEv c A σ h x f h1)) (hr : PA X es (tEvs c A σ h1 xs h2)) (hs : starEach (e :: es) X.env = (false, eval e X.env) :: starEach es X.env) : PA X (e :: es) (tEvs c A σ h (.d x f :: xs) h2) :=
  (pa_cons he hr hs).mono fun σV H Q ⟨s, w, q⟩ => ⟨s, w, fun v H1 k1 w1 r1 => ⟨s.keep w.bin k1, w1, fun vs H2 k2 w2 r2 => q _ _ (k1.trans k2) w2 (.cons (r1.arg.keep w.bin k2) r2)⟩⟩
theorem a_box {xs : List Og.Arg} (he : PE X e (tBx c A σ h)) (hr : PA X es (tEvs c A σ h xs h2)) (hs : starEach (e :: es) X.env = (false, eval e X.env) :: starEach es X.env) : PA X (e :: es) (tEvs c A σ h (.box :: xs) h2) :=
  (pa_cons he hr hs).mono fun σV H Q ⟨s, w, q⟩ => ⟨s, w, fun v r1 => ⟨s, w, fun vs H2 k2 w2 r2 => q _ _ k2 w2 (.cons r1 r2)⟩⟩
theorem ArL.length {H : Hp} : ∀ {vs : List V} {xs : List Og.Arg}, ArL c H A vs xs → vs.length = xs.length
  | _, _, .nil => rfl
  | _, _, .cons _ r => by simp [ArL.length r]
theorem e_tup {xs : List Og.Arg} {l : List D} {k : Nat} (ha : PA X es (tEvs c A σ h xs h1)) (hl : strongs xs = some l) (hn : xs.length ≤ 1000) : PE X (.Tuple es k pos) (tEv c A σ h (.tuple l) .pl h1) :=
  (pe_tup ha).mono fun σV H Q ⟨s, w, q⟩ => ⟨s, w, fun vs H1 k1 w1 r1 => ⟨by rw [r1.length, sizeLine_eq]; omega, fun p hp => q _ _ (k1.trans (Kp.new hp)) (w1.new hp) (vl_newT w1 hp (r1.strongs hl))⟩⟩
theorem e_lst {xs : List Og.Arg} {l : List D} (ha : PA X es (tEvs c A σ h xs h1)) (hl : strongs xs = some l) (hn : xs.length ≤ 1000) : PE X (.List es pos) (tEv c A σ h (.list l) .fr h1) :=
  (pe_lst ha).mono fun σV H Q ⟨s, w, q⟩ => ⟨s, w, fun vs H1 k1 w1 r1 => ⟨by rw [r1.length, sizeLine_eq]; omega, fun p hp => q _ _ (k1.trans (Kp.new hp)) (w1.new hp) ((vl_newL w1 hp (r1.strongs hl)).back w.bin k1)⟩⟩
/-! ### operations -/
theorem e_bin {op : Bop} (hK : X.K = c.K) (ha : PE X a (tEv c A σ h x f h1)) (hf : f ≠ .ct) (hb : PE X b (tEv c A σ h1 y g h2)) (hg : g ≠ .ct) (e : binV op x y h2 = .ok z fl h') : PE X (.BinOp a (bopP op) b pos) (tEv c A σ h z fl h') :=
  (pe_op (op_bin (c := c) (A := A) hK e) ha hb).mono fun σV H Q ⟨s, w, q⟩ => ⟨s, w, fun v H1 k1 w1 r1 => ⟨s.keep w.bin k1, w1, fun u H2 k2 w2 r2 => ⟨(r1.wn hf).keep w.bin k2, r2.wn hg, w2, fun t H3 k3 w3 r3 => q t H3 (k1.trans (k2.trans k3)) w3 (r3.back w.bin (k1.trans k2))⟩⟩⟩
theorem e_neg {i : Int} (ha : PE X a (tEv c A σ h (.int i) f h1)) : PE X (.UnaryOp .USub a pos) (tEv c A σ h (.int (-i)) .pl h1) :=
  (pe_un un_neg ha).mono fun σV H Q ⟨s, w, q⟩ => ⟨s, w, fun v H1 k1 w1 r1 => by
    have := r1.wr.int; subst this
    exact ⟨i, rfl, q _ _ k1 w1 (Rv.int _)⟩⟩
/-! ### tests -/
theorem tru_of {K : PySem.W.Frag} (hK : K = c.K) {H : Hp} {v : V} {bb : Bool} (r : Wr c H A v x) (e : truD x = some bb) : TruV K v H bb := by
  subst hK
  cases x with
  | none => have := r.non; subst this; cases e; rfl
  | bool b => have := r.bl; subst this; cases e; rfl
  | int i =>
    have := r.int; subst this; cases e
    show (!eqI i 0) = (i != 0)
    rw [eqI_iff, bne, Bool.beq_eq_decide_eq]
  | list l =>
    obtain ⟨a, xs, rfl, h1, h2⟩ := r.lst
    cases e
    refine .inl ⟨xs, SqL.of h1, ?_⟩
    cases h2 <;> rfl
  | tuple l =>
    obtain ⟨a, xs, rfl, h1, h2⟩ := r.tup
    cases e
    refine .inr (.inl ⟨xs, h1, ?_⟩)
    cases h2 <;> rfl
  | _ => cases e
theorem t_truth {bb : Bool} (hK : X.K = c.K) (ha : PE X a (tEv c A σ h x f h1)) (e : truD x = some bb) (hi : ∀ whole, isTrue a X.env whole = (do let v ← whole; standAt a.pos; holding [v] (truthy v))) : PT X a (tTs c A σ h bb h1) :=
  (pt_truth ha hi).mono fun σV H Q ⟨s, w, q⟩ => ⟨s, w, fun v H1 k1 w1 r1 => ⟨bb, tru_of hK r1.wr e, q _ k1 w1⟩⟩
theorem t_not {bb : Bool} (ha : PT X a (tTs c A σ h bb h1)) : PT X (.UnaryOp .Not a pos) (tTs c A σ h (!bb) h1) :=
  (pt_not ha).mono fun σV H Q ⟨s, w, q⟩ => ⟨s, w, fun H1 k1 w1 => q _ k1 w1⟩
/-- not x, as a value -/
theorem e_not {bb : Bool} (hK : X.K = c.K) (ha : PE X a (tEv c A σ h x f h1)) (e : truD x = some bb) : PE X (.UnaryOp .Not a pos) (tEv c A σ h (.bool (!bb)) .pl h1) := by
  refine ⟨fun pins s σV H Q I ⟨q1, q2, q3⟩ => UnaryOp_ (thn (ha.run pins s σV H (fun v H1 => TruV X.K v H1 bb ∧ Q (.bl (!bb)) H1) I ⟨q1, q2, fun v H1 k1 w1 r1 => ⟨tru_of hK r1.wr e, q3 _ _ k1 w1 (Rv.bl _)⟩⟩) fun v s1 ⟨xv, H1, I1, r1, t1, q⟩ => not_of ?_)⟩
  exact thn (tru_ok pins s1 σV H1 xv v (fun k H2 => k = bb ∧ Q (.bl (!bb)) H2) I1 r1 ⟨bb, t1, rfl, q⟩) fun k s2 ⟨H2, I2, ek, q2⟩ => by
    subst ek
    exact ⟨.bl (!k), H2, I2, rfl, q2⟩
theorem PT.pw {X : Cx} {op : BoolOp} {es : List Expr} {pos : Pos} {t : TT} (h : PT X (.BoolOp op es pos) t) : PW X (.BoolOp op es pos) t := ⟨fun wh pins s σ H Q I q => h.run pins s σ H Q I q⟩
/-- the rest of an and / or -/
def nrm (op : BoolOp) (pos : Pos) : List Expr → Expr
  | [x] => x
  | l => .BoolOp op l pos
theorem nrm_pw_and {l : List Expr} {t : TT} (h0 : l ≠ []) (h : PT X (nrm .And pos l) t) : PW X (.BoolOp .And l pos) t := by
  match l, h0, h with
  | [x], _, h => exact pw_and1 h
  | x :: y :: r, _, h => exact PT.pw h
theorem nrm_pw_or {l : List Expr} {t : TT} (h0 : l ≠ []) (h : PT X (nrm .Or pos l) t) : PW X (.BoolOp .Or l pos) t := by
  match l, h0, h with
  | [x], _, h => exact pw_or1 h
  | x :: y :: r, _, h => exact PT.pw h
theorem nrm_pe {op : BoolOp} {l : List Expr} {t : TE} (h0 : l ≠ []) (h : PE X (nrm op pos l) t) : PE X (.BoolOp op l pos) t := by
  match l, h0, h with
  | [x], _, h => exact pe_one h
  | x :: y :: r, _, h => exact h
variable {rest : List Expr}
theorem t_andT {b2 : Bool} (ha : PT X a (tTs c A σ h true h1)) (hb : PT X (nrm .And pos (b :: rest)) (tTs c A σ h1 b2 h2)) : PT X (.BoolOp .And (a :: b :: rest) pos) (tTs c A σ h b2 h2) :=
  (pw_and ha (nrm_pw_and (by simp) hb)).pt.mono fun σV H Q ⟨s, w, q⟩ => ⟨s, w, fun H1 k1 w1 => by
    refine cast (if_pos rfl).symm ?_
    exact ⟨s.keep w.bin k1, w1, fun H2 k2 w2 => q _ (k1.trans k2) w2⟩⟩
theorem t_andF (ha : PT X a (tTs c A σ h false h1)) : PT X (.BoolOp .And (a :: b :: rest) pos) (tTs c A σ h false h1) := by
  refine ⟨fun pins s σV H Q I ⟨q1, q2, q3⟩ => ?_⟩
  refine isTrue_and (thn (ha.run pins s σV H (fun k H1 => k = false ∧ Q false H1) I ⟨q1, q2, fun H1 k1 w1 => ⟨rfl, q3 _ k1 w1⟩⟩) fun k s1 ⟨H1, I1, ek, q⟩ => ?_)
  subst ek
  exact ⟨H1, I1, q⟩
theorem t_orF {b2 : Bool} (ha : PT X a (tTs c A σ h false h1)) (hb : PT X (nrm .Or pos (b :: rest)) (tTs c A σ h1 b2 h2)) : PT X (.BoolOp .Or (a :: b :: rest) pos) (tTs c A σ h b2 h2) :=
  (pw_or ha (nrm_pw_or (by simp) hb)).pt.mono fun σV H Q ⟨s, w, q⟩ => ⟨s, w, fun H1 k1 w1 => by
    refine cast (if_neg (by decide)).symm ?_
    exact ⟨s.keep w.bin k1, w1, fun H2 k2 w2 => q _ (k1.trans k2) w2⟩⟩
theorem t_orT (ha : PT X a (tTs c A σ h true h1)) : PT X (.BoolOp .Or (a :: b :: rest) pos) (tTs c A σ h true h1) := by
  refine ⟨fun pins s σV H Q I ⟨q1, q2, q3⟩ => ?_⟩
  refine isTrue_or (thn (ha.run pins s σV H (fun k H1 => k = true ∧ Q true H1) I ⟨q1, q2, fun H1 k1 w1 => ⟨rfl, q3 _ k1 w1⟩⟩) fun k s1 ⟨H1, I1, ek, q⟩ => ?_)
  subst ek
  exact ⟨H1, I1, q⟩
theorem e_andT (ha : PE X a (tEv c A σ h (.bool true) f h1)) (hb : PE X (nrm .And pos (b :: rest)) (tEv c A σ h1 z fl h2)) : PE X (.BoolOp .And (a :: b :: rest) pos) (tEv c A σ h z fl h2) :=
  (pe_and ha (nrm_pe (by simp) hb)).mono fun σV H Q ⟨s, w, q⟩ => ⟨s, w, fun v H1 k1 w1 r1 => ⟨true, r1.wr.bl, by
    refine cast (if_pos rfl).symm ?_
    exact ⟨s.keep w.bin k1, w1, fun u H2 k2 w2 r2 => q _ _ (k1.trans k2) w2 (r2.back w.bin k1)⟩⟩⟩
theorem e_orF (ha : PE X a (tEv c A σ h (.bool false) f h1)) (hb : PE X (nrm .Or pos (b :: rest)) (tEv c A σ h1 z fl h2)) : PE X (.BoolOp .Or (a :: b :: rest) pos) (tEv c A σ h z fl h2) :=
  (pe_or ha (nrm_pe (by simp) hb)).mono fun σV H Q ⟨s, w, q⟩ => ⟨s, w, fun v H1 k1 w1 r1 => ⟨false, r1.wr.bl, by
    refine cast (if_neg (by decide)).symm ?_
    exact ⟨s.keep w.bin k1, w1, fun u H2 k2 w2 r2 => q _ _ (k1.trans k2) w2 (r2.back w.bin k1)⟩⟩⟩
theorem e_andF (ha : PE X a (tEv c A σ h (.bool false) f h1)) : PE X (.BoolOp .And (a :: b :: rest) pos) (tEv c A σ h (.bool false) .pl h1) := by
  refine ⟨fun pins s σV H Q I ⟨q1, q2, q3⟩ => ?_⟩
  refine BoolOp_and (thn (ha.run pins s σV H (fun v H1 => v = .bl false ∧ Q (.bl false) H1) I ⟨q1, q2, fun v H1 k1 w1 r1 => ⟨r1.wr.bl, q3 _ _ k1 w1 (Rv.bl _)⟩⟩) fun v s1 ⟨xv, H1, I1, r1, ek, q⟩ => ?_)
  subst ek
  cases r1
  exact wpAny_truthy_bool ⟨.bl false, H1, I1, rfl, q⟩
theorem e_orT (ha : PE X a (tEv c A σ h (.bool true) f h1)) : PE X (.BoolOp .Or (a :: b :: rest) pos) (tEv c A σ h (.bool true) .pl h1) := by
  refine ⟨fun pins s σV H Q I ⟨q1, q2, q3⟩ => ?_⟩
  refine BoolOp_or (thn (ha.run pins s σV H (fun v H1 => v = .bl true ∧ Q (.bl true) H1) I ⟨q1, q2, fun v H1 k1 w1 r1 => ⟨r1.wr.bl, q3 _ _ k1 w1 (Rv.bl _)⟩⟩) fun v s1 ⟨xv, H1, I1, r1, ek, q⟩ => ?_)
  subst ek
  cases r1
  exact wpAny_truthy_bool ⟨.bl true, H1, I1, rfl, q⟩
/-! ### a if c else b -/
variable {t : Expr}
theorem e_iteT (hc : PT X t (tTs c A σ h true h1)) (ha : PE X a (tEv c A σ h1 z fl h2)) : PE X (.IfExp t a b pos) (tEv c A σ h z fl h2) := by
  refine ⟨fun pins s σV H Q I ⟨q1, q2, q3⟩ => ?_⟩
  refine wpAny_IfExp (thn (hc.run pins s σV H (fun k H1 => k = true ∧ tEv c A σ h1 z fl h2 σV H1 Q) I ⟨q1, q2, fun H1 k1 w1 => ⟨rfl, q1.keep q2.bin k1, w1, fun u H2 k2 w2 r2 => q3 _ _ (k1.trans k2) w2 (r2.back q2.bin k1)⟩⟩) fun k s1 ⟨H1, I1, ek, q⟩ => ?_)
  subst ek
  exact ha.run pins s1 σV H1 Q I1 q
theorem e_iteF (hc : PT X t (tTs c A σ h false h1)) (ha : PE X b (tEv c A σ h1 z fl h2)) : PE X (.IfExp t a b pos) (tEv c A σ h z fl h2) := by
  refine ⟨fun pins s σV H Q I ⟨q1, q2, q3⟩ => ?_⟩
  refine wpAny_IfExp (thn (hc.run pins s σV H (fun k H1 => k = false ∧ tEv c A σ h1 z fl h2 σV H1 Q) I ⟨q1, q2, fun H1 k1 w1 => ⟨rfl, q1.keep q2.bin k1, w1, fun u H2 k2 w2 r2 => q3 _ _ (k1.trans k2) w2 (r2.back q2.bin k1)⟩⟩) fun k s1 ⟨H1, I1, ek, q⟩ => ?_)
  subst ek
  exact ha.run pins s1 σV H1 Q I1 q
/-! ### comparisons -/
theorem cmpV_b {op : Cop} (e : cmpV op x y h = .ok z f h') : ∃ bb, z = .bool bb ∧ f = .pl ∧ h' = h := by
  have key : ∀ {k : Bool}, mkB k h = .ok z f h' → ∃ bb, z = .bool bb ∧ f = .pl ∧ h' = h := fun {k} e => ⟨k, kB e⟩
  cases op <;> simp only [cmpV, cEq, cNe, cLt, cLe, cIs, cIn] at e <;> (repeat' split at e) <;> first | exact key e | cases e
theorem e_cmp {op : Cop} (hK : X.K = c.K) (hwd : X.w = c.w) (hu : X.A.units + 65 < cLine) (ha : PE X a (tEv c A σ h x f h1)) (hf : f ≠ .ct) (hb : PE X b (tEv c A σ h1 y g h2)) (hg : ctOk g x y = true) (e : cmpV op x y h2 = .ok z fl h') (hm : behindInMarks (copP op) b = false) :
    PE X (.Compare a [copP op] [b] pos) (tEv c A σ h z fl h') :=
  (pe_cmpR (op_cmp (c := c) (A := A) hK hwd hu e) ha hb hm).mono fun σV H Q ⟨s, w, q⟩ => ⟨s, w, fun v H1 k1 w1 r1 => ⟨s.keep w.bin k1, w1, fun u H2 k2 w2 r2 => ⟨(r1.wn hf).keep w.bin k2, r2.wy hg, w2, fun t H3 k3 w3 r3 => q t H3 (k1.trans (k2.trans k3)) w3 (r3.back w.bin (k1.trans k2))⟩⟩⟩
theorem t_cmp {op : Cop} {bb : Bool} (hK : X.K = c.K) (hwd : X.w = c.w) (hu : X.A.units + 65 < cLine) (ha : PE X a (tEv c A σ h x f h1)) (hf : f ≠ .ct) (hb : PE X b (tEv c A σ h1 y g h2)) (hg : ctOk g x y = true) (e : cmpV op x y h2 = .ok (.bool bb) fl h') (hm : behindInMarks (copP op) b = false) :
    PT X (.Compare a [copP op] [b] pos) (tTs c A σ h bb h') :=
  (pt_cmpR (op_cmp (c := c) (A := A) hK hwd hu e) ha hb hm).mono fun σV H Q ⟨s, w, q⟩ => ⟨s, w, fun v H1 k1 w1 r1 => ⟨s.keep w.bin k1, w1, fun u H2 k2 w2 r2 => ⟨(r1.wn hf).keep w.bin k2, r2.wy hg, w2, fun t H3 k3 w3 r3 => ⟨bb, r3.wr.bl, q H3 (k1.trans (k2.trans k3)) w3⟩⟩⟩⟩
theorem op_none {ff : Value → Value → Sem Value} : OpR X ff (fun _ _ _ _ => False) := fun _ _ _ _ _ _ _ _ _ _ _ _ z => z.elim
theorem e_chnT {o1 o2 : Cop} {fa fb fc f1 : Fl} {d : D} {cc : Expr} (hK : X.K = c.K) (hwd : X.w = c.w) (hu : X.A.units + 65 < cLine) (ha : PE X a (tEv c A σ h x fa h1)) (hf : fa ≠ .ct) (hb : PE X b (tEv c A σ h1 y fb h2)) (hg : fb ≠ .ct)
    (e : cmpV o1 x y h2 = .ok (.bool true) f1 h3) (hc : PE X cc (tEv c A σ h3 d fc h')) (hd : fc ≠ .ct) {h4 : Hist} (e2 : cmpV o2 y d h' = .ok z fl h4) (hm : lastMarks [copP o1, copP o2] [b, cc] = false) :
    PE X (.Compare a [copP o1, copP o2] [b, cc] pos) (tEv c A σ h z fl h4) :=
  (pe_chain (op_cmp (c := c) (A := A) hK hwd hu e) (op_cmp (c := c) (A := A) hK hwd hu e2) ha hb hc hm).mono fun σV H Q ⟨s, w, q⟩ => ⟨s, w, fun v H1 k1 w1 r1 => ⟨s.keep w.bin k1, w1, fun u H2 k2 w2 r2 => ⟨(r1.wn hf).keep w.bin k2, .inl (r2.wn hg), w2, fun t H3 k3 w3 r3 => ⟨true, r3.wr.bl, by
    refine cast (if_pos rfl).symm ?_
    exact ⟨s.keep w.bin (k1.trans (k2.trans k3)), w3, fun t' H4 k4 w4 r4 => ⟨(r2.wn hg).keep w.bin (k3.trans k4), .inl (r4.wn hd), w4, fun t5 H5 k5 w5 r5 => q _ _ (k1.trans (k2.trans (k3.trans (k4.trans k5)))) w5 (r5.back w.bin (k1.trans (k2.trans (k3.trans k4))))⟩⟩⟩⟩⟩⟩
theorem e_chnF {o1 o2 : Cop} {fa fb f1 : Fl} {cc : Expr} (hK : X.K = c.K) (hwd : X.w = c.w) (hu : X.A.units + 65 < cLine) (ha : PE X a (tEv c A σ h x fa h1)) (hf : fa ≠ .ct) (hb : PE X b (tEv c A σ h1 y fb h2)) (hg : fb ≠ .ct)
    (e : cmpV o1 x y h2 = .ok (.bool false) f1 h3) (hm : lastMarks [copP o1, copP o2] [b, cc] = false) : PE X (.Compare a [copP o1, copP o2] [b, cc] pos) (tEv c A σ h (.bool false) .pl h3) :=
  (pe_chain (op_cmp (c := c) (A := A) hK hwd hu e) (op_none (ff := compareOp (copP o2))) ha hb (⟨fun _ _ _ _ _ _ z => z.elim⟩ : PE X cc fun _ _ _ => False) hm).mono fun σV H Q ⟨s, w, q⟩ => ⟨s, w, fun v H1 k1 w1 r1 => ⟨s.keep w.bin k1, w1, fun u H2 k2 w2 r2 => ⟨(r1.wn hf).keep w.bin k2, .inl (r2.wn hg), w2, fun t H3 k3 w3 r3 => ⟨false, r3.wr.bl, by
    refine cast (if_neg (by decide)).symm ?_
    exact q _ _ (k1.trans (k2.trans k3)) w3 (Rv.bl _)⟩⟩⟩⟩
theorem t_chnT {o1 o2 : Cop} {fa fb fc f1 : Fl} {d : D} {cc : Expr} {bb : Bool} (hK : X.K = c.K) (hwd : X.w = c.w) (hu : X.A.units + 65 < cLine) (ha : PE X a (tEv c A σ h x fa h1)) (hf : fa ≠ .ct) (hb : PE X b (tEv c A σ h1 y fb h2)) (hg : fb ≠ .ct)
    (e : cmpV o1 x y h2 = .ok (.bool true) f1 h3) (hc : PE X cc (tEv c A σ h3 d fc h')) (hd : fc ≠ .ct) {h4 : Hist} (e2 : cmpV o2 y d h' = .ok (.bool bb) fl h4) (hm : lastMarks [copP o1, copP o2] [b, cc] = false) :
    PT X (.Compare a [copP o1, copP o2] [b, cc] pos) (tTs c A σ h bb h4) :=
  (pt_chain (op_cmp (c := c) (A := A) hK hwd hu e) (op_cmp (c := c) (A := A) hK hwd hu e2) ha hb hc hm).mono fun σV H Q ⟨s, w, q⟩ => ⟨s, w, fun v H1 k1 w1 r1 => ⟨s.keep w.bin k1, w1, fun u H2 k2 w2 r2 => ⟨(r1.wn hf).keep w.bin k2, .inl (r2.wn hg), w2, fun t H3 k3 w3 r3 => ⟨true, r3.wr.bl, by
    refine cast (if_pos rfl).symm ?_
    exact ⟨s.keep w.bin (k1.trans (k2.trans k3)), w3, fun t' H4 k4 w4 r4 => ⟨(r2.wn hg).keep w.bin (k3.trans k4), .inl (r4.wn hd), w4, fun t5 H5 k5 w5 r5 => ⟨bb, r5.wr.bl, q _ (k1.trans (k2.trans (k3.trans (k4.trans k5)))) w5⟩⟩⟩⟩⟩⟩⟩
theorem t_chnF {o1 o2 : Cop} {fa fb f1 : Fl} {cc : Expr} (hK : X.K = c.K) (hwd : X.w = c.w) (hu : X.A.units + 65 < cLine) (ha : PE X a (tEv c A σ h x fa h1)) (hf : fa ≠ .ct) (hb : PE X b (tEv c A σ h1 y fb h2)) (hg : fb ≠ .ct)
    (e : cmpV o1 x y h2 = .ok (.bool false) f1 h3) (hm : lastMarks [copP o1, copP o2] [b, cc] = false) : PT X (.Compare a [copP o1, copP o2] [b, cc] pos) (tTs c A σ h false h3) :=
  (pt_chain (op_cmp (c := c) (A := A) hK hwd hu e) (op_none (ff := compareOp (copP o2))) ha hb (⟨fun _ _ _ _ _ _ z => z.elim⟩ : PE X cc fun _ _ _ => False) hm).mono fun σV H Q ⟨s, w, q⟩ => ⟨s, w, fun v H1 k1 w1 r1 => ⟨s.keep w.bin k1, w1, fun u H2 k2 w2 r2 => ⟨(r1.wn hf).keep w.bin k2, .inl (r2.wn hg), w2, fun t H3 k3 w3 r3 => ⟨false, r3.wr.bl, by
    refine cast (if_neg (by decide)).symm ?_
    exact ⟨false, rfl, q _ (k1.trans (k2.trans k3)) w3⟩⟩⟩⟩⟩
/-! ### items, slices -/
theorem e_sub (hK : X.K = c.K) (hwd : X.w = c.w) (hu : X.A.units + 65 < cLine) (ha : PE X a (tEv c A σ h x f h1)) (hb : PE X b (tEv c A σ h1 y g h2)) (hg : g ≠ .ct) (hf : ctOk f y x = true) (e : subV x y h2 = .ok z fl h') (hp : PlainIx b) : PE X (.Subscript a b pos) (tEv c A σ h z fl h') :=
  (pe_ix (ix_sub (c := c) (A := A) hK hwd hu e) ha hb hp).mono fun σV H Q ⟨s, w, q⟩ => ⟨s, w, fun v H1 k1 w1 r1 => ⟨s.keep w.bin k1, w1, fun u H2 k2 w2 r2 => ⟨(r1.wy hf).keep w.bin k2, r2.wn hg, w2, fun t H3 k3 w3 r3 => q t H3 (k1.trans (k2.trans k3)) w3 (r3.back w.bin (k1.trans k2))⟩⟩⟩
/-- a part of a slice -/
def tOi (c : Cf) (A : List Addr) (σ : Sl) (h : Hist) (l : Option Int) (h' : Hist) : TO := fun σV H Q => SsR c H A σ σV ∧ Wd c H A h ∧ ∀ H', Kp c.bx H H' → Wd c H' A h' → Q l H'
theorem PO.mono {X : Cx} {e : Option Expr} {t t' : TO} (h : PO X e t) (i : ∀ σ H R, t' σ H R → t σ H R) : PO X e t' := ⟨fun pins s σ H R I q => h.run pins s σ H R I (i _ _ _ q)⟩
theorem o_none : PO X none (tOi c A σ h none h) := PO.mono po_none fun σV H Q ⟨_, w, q⟩ => q H .refl w
theorem o_some {i : Int} (ha : PE X a (tEv c A σ h (.int i) f h1)) : PO X (some a) (tOi c A σ h (some i) h1) :=
  PO.mono (po_some ha) fun σV H Q ⟨s, w, q⟩ => ⟨s, w, fun v H1 k1 w1 r1 => ⟨i, r1.wr.int, q _ k1 w1⟩⟩
theorem e_slc {lo hi : Option Expr} {l u : Option Int} {p2 : Pos} (hK : X.K = c.K) (ha : PE X a (tEv c A σ h x f h1)) (hf : f ≠ .ct) (hl : PO X lo (tOi c A σ h1 l h2)) (hu : PO X hi (tOi c A σ h2 u h3)) (e : Og.cutV x l u h3 = .ok z fl h') :
    PE X (.Subscript a (.Slice lo hi none p2) pos) (tEv c A σ h z fl h') :=
  (pe_slice (sl_cut (c := c) (A := A) hK e) ha hl hu).mono fun σV H Q ⟨s, w, q⟩ => ⟨s, w, fun v H1 k1 w1 r1 => ⟨s.keep w.bin k1, w1, fun H2 k2 w2 => ⟨s.keep w.bin (k1.trans k2), w2, fun H3 k3 w3 => ⟨rfl, rfl, (r1.wn hf).keep w.bin (k2.trans k3), w3, fun t H4 k4 w4 r4 => q t H4 (k1.trans (k2.trans (k3.trans k4))) w4 (r4.back w.bin (k1.trans (k2.trans k3)))⟩⟩⟩⟩
/-! ### calls -/
theorem e_blt {xs : List Og.Arg} {l : List D} (ha : PE X e (tCB (rBl c A h1 l z fl h') (tEvs c A σ h xs h1))) (hl : nearly xs = some l) : PE X e (tEv c A σ h z fl h') :=
  ha.mono fun σV H Q ⟨s, w, q⟩ => ⟨s, w, fun vs H1 k1 w1 r1 => ⟨r1.nearly hl, w1, fun v H2 k2 w2 r2 => q v H2 (k1.trans k2) w2 (r2.back w.bin k1)⟩⟩
/-- a def of the text: what the interpreter says of it -/
def spF (c : Cf) (φ : Nat → List Og.Arg → Hist → RE) (f np : Nat) : Sp := fun vs H Q _ => ∃ A args h x fl h', φ f args h = .ok x fl h' ∧ args.length = np ∧ passes args = true ∧ ArL c H A vs args ∧ Wd c H A h ∧
  ∀ v H', Kp c.bx H H' → Wd c H' A h' → Vl c A H H' v x fl → Q v H'
theorem e_call {φ : Nat → List Og.Arg → Hist → RE} {xs : List Og.Arg} {n np : Nat} {E : XK} (ha : PE X e (tCall (spF c φ n np) [] E (tEvs c A σ h xs h1))) (hp : passes xs = true) (hn : xs.length = np) (hφ : φ n xs h1 = .ok z fl h') : PE X e (tEv c A σ h z fl h') :=
  ha.mono fun σV H Q ⟨s, w, q⟩ => ⟨s, w, fun vs H1 k1 w1 r1 => ⟨A, xs, h1, z, fl, h', hφ, hn, hp, by rw [List.append_nil]; exact r1, w1, fun v H2 k2 w2 r2 => q v H2 (k1.trans k2) w2 (r2.back w.bin k1)⟩⟩
/-- a draw -/
def spTake (c : Cf) (o : Hist → Int → Int) : Sp := fun vs H Q _ => ∃ A a n h, vs = [.ref a, .int n] ∧ c.bx = some a ∧ 0 < n ∧ n < 2 ^ 64 ∧ h.length < 1000000 ∧ Wd c H A h ∧ ∀ H', Kp c.bx H H' → Wd c H' A (n :: h) → Q (.int (o h n)) H'
theorem e_take {o : Hist → Int → Int} {n : Int} {E : XK} (ha : PE X e (tCall (spTake c o) [] E (tEvs c A σ h [.box, .d (.int n) f] h1))) (h0 : 0 < n) (h64 : n < 2 ^ 64) (hl : h1.length < 1000000) : PE X e (tEv c A σ h (.int (o h1 n)) .pl (n :: h1)) :=
  ha.mono fun σV H Q ⟨s, w, q⟩ => ⟨s, w, fun vs H1 k1 w1 r1 => by
    cases r1 with
    | cons ra rb =>
      cases rb with
      | @cons v2 _ _ _ rb rc =>
        cases rc
        obtain ⟨a, rfl, ha⟩ := ra
        have : v2 = V.int n := by
          cases f with
          | wk => obtain ⟨b, _, _, o⟩ := rb; cases o
          | ct => obtain ⟨b, _, g⟩ := rb; cases g
          | pl => cases rb; rfl
          | fr => cases rb; rfl
        subst this
        exact ⟨A, a, n, h1, rfl, ha, h0, h64, hl, w1, fun H2 k2 w2 => q _ _ (k1.trans k2) w2 (Rv.int _)⟩⟩
end
end Og

end
section
set_option Elab.async false
set_option linter.all false
set_option maxRecDepth 100000
/-! Comprehensions. -/
namespace Og
open PySem PySem.Spec PyProof.Rows L2
def slotsT : Tg → List Nat
  | .nm i => [i]
  | .nil => []
  | .cons a b => slotsT a ++ slotsT b
def gEv (c : Cf) (ef : Sl → Hist → RE) : TE := fun σV H Q => ∃ A σ h x f h', ef σ h = .ok x f h' ∧ tEv c A σ h x f h' σV H Q
def gTs (c : Cf) (tf : Sl → Hist → RE) : TT := fun σV H Q => ∃ A σ h b f h', tf σ h = .ok (.bool b) f h' ∧ tTs c A σ h b h' σV H Q
def gTg (c : Cf) (tg : Tg) : TG := fun v σV H Q => ∃ A σ y σ', asgT tg y σ = some σ' ∧ Rv c H A v y ∧ SsR c H A σ σV ∧
  ∀ σV', SsR c H A σ' σV' → σV'.length = σV.length → (∀ j, j ∉ slotsT tg → σV'[j]? = σV[j]?) → Q σV' H
theorem PE.gen {X : Cx} {c : Cf} {e : Expr} {ef : Sl → Hist → RE} (h : ∀ A σ h x f h', ef σ h = .ok x f h' → PE X e (tEv c A σ h x f h')) : PE X e (gEv c ef) :=
  ⟨fun pins s σV H Q I ⟨A, σ, h0, x, f, h', e1, t⟩ => (h A σ h0 x f h' e1).run pins s σV H Q I t⟩
/-! ### slots -/
section
variable {c : Cf} {H H' : Hp} {A : List Addr} {σ : Sl} {σV : L2.St}
theorem getS_iff : ∀ {σ : Sl} {i : Nat} {s : SV}, getS σ i = some s ↔ σ[i]? = some (some s)
  | [], _, _ => by simp [getS]
  | a :: r, 0, s => by simp [getS]
  | a :: r, i + 1, s => by simp [getS, getS_iff (σ := r)]
theorem setS_eq : ∀ {σ : Sl} {i : Nat} {s : Option SV}, setS σ i s = σ.set i s
  | [], _, _ => by simp [setS]
  | a :: r, 0, s => by simp [setS]
  | a :: r, i + 1, s => by simp [setS, setS_eq (σ := r)]
theorem getS_set {i j : Nat} {s : Option SV} {t : SV} (e : getS (setS σ i s) j = some t) : (j = i ∧ s = some t) ∨ (j ≠ i ∧ getS σ j = some t) := by
  rw [getS_iff, setS_eq] at e
  by_cases q : i = j
  · subst q
    by_cases hl : i < σ.length
    · rw [List.getElem?_set_self hl] at e; cases e; exact .inl ⟨rfl, rfl⟩
    · rw [List.getElem?_eq_none (by simpa using hl)] at e; cases e
  · rw [List.getElem?_set_ne q] at e
    exact .inr ⟨fun z => q z.symm, getS_iff.mpr e⟩
theorem getS_lt {i : Nat} {s : SV} (e : getS σ i = some s) : i < σ.length := (List.getElem?_eq_some_iff.mp (getS_iff.mp e)).1
theorem getS_setl {i j : Nat} {s : Option SV} {t : SV} (e : getS (setS σ i s) j = some t) : j < σ.length := by
  have := getS_lt e; rw [setS_eq] at this; simpa using this
/-- data stored -/
theorem SsR.setD {i : Nat} {x : D} {v : V} (s : SsR c H A σ σV) (r : Rv c H A v x) : SsR c H A (setS σ i (some (.d x))) (σV.set i (some v)) := by
  refine ⟨by rw [setS_eq]; simpa using s.len, fun j t e => ?_, fun j k x y a e1 e2 h1 h2 => ?_⟩
  · rcases getS_set e with ⟨rfl, q⟩ | ⟨n, q⟩
    · cases q
      have := getS_setl e
      exact ⟨v, List.getElem?_set_self (by rw [← s.len]; exact this), r⟩
    · obtain ⟨u, h1, h2⟩ := s.at_ j t q
      exact ⟨u, by rw [List.getElem?_set_ne (Ne.symm n)]; exact h1, h2⟩
  · rcases getS_set e1 with ⟨rfl, q⟩ | ⟨n, q⟩
    · cases q
    · rcases getS_set e2 with ⟨rfl, q2⟩ | ⟨n2, q2⟩
      · cases q2
      · rw [List.getElem?_set_ne (Ne.symm n)] at h1
        rw [List.getElem?_set_ne (Ne.symm n2)] at h2
        exact s.ap j k x y a q q2 h1 h2
/-- forgotten -/
theorem SsR.setN {i : Nat} (s : SsR c H A σ σV) : SsR c H A (setS σ i none) (σV.set i none) := by
  refine ⟨by rw [setS_eq]; simpa using s.len, fun j t e => ?_, fun j k x y a e1 e2 h1 h2 => ?_⟩
  · rcases getS_set e with ⟨rfl, q⟩ | ⟨n, q⟩
    · cases q
    · obtain ⟨u, h1, h2⟩ := s.at_ j t q
      exact ⟨u, by rw [List.getElem?_set_ne (Ne.symm n)]; exact h1, h2⟩
  · rcases getS_set e1 with ⟨rfl, q⟩ | ⟨n, q⟩
    · cases q
    · rcases getS_set e2 with ⟨rfl, q2⟩ | ⟨n2, q2⟩
      · cases q2
      · rw [List.getElem?_set_ne (Ne.symm n)] at h1
        rw [List.getElem?_set_ne (Ne.symm n2)] at h2
        exact s.ap j k x y a q q2 h1 h2
theorem SsR.wipe (s : SsR c H A σ σV) : ∀ vs : List Nat, SsR c H A (wipeS σ vs) (L2.wipe σV vs)
  | [] => s
  | v :: vs => (SsR.wipe s vs).setN
theorem SvR.more {v : V} {t : SV} {p : Addr} (np : H p = none) (r : SvR c H A v t) : SvR c H (p :: A) v t := by
  cases t with
  | d x => exact Rv.more np r
  | own x => obtain ⟨a, e, n, m, o⟩ := r; exact ⟨a, e, n, List.mem_cons_of_mem _ m, o.more np⟩
  | box => exact r
theorem SsR.more {p : Addr} (np : H p = none) (s : SsR c H A σ σV) : SsR c H (p :: A) σ σV :=
  ⟨s.len, fun i t e => let ⟨v, e1, r⟩ := s.at_ i t e; ⟨v, e1, r.more np⟩, s.ap⟩
theorem asg_len : ∀ {tg : Tg} {y : D} {σ σ' : Sl}, asgT tg y σ = some σ' → σ'.length = σ.length
  | .nm i, y, σ, σ', e => by simp only [asgT] at e; cases e; rw [setS_eq]; simp
  | .nil, y, σ, σ', e => by
    simp only [asgT] at e; split at e
    · cases e; rfl
    · cases e
  | .cons a b, y, σ, σ', e => by
    simp only [asgT] at e
    split at e
    · split at e
      · rename_i e1; rw [asg_len e, asg_len e1]
      · cases e
    · split at e
      · rename_i e1; rw [asg_len e, asg_len e1]
      · cases e
    · cases e
theorem wipe_get {σV : L2.St} {j : Nat} : ∀ {vs : List Nat}, (L2.wipe σV vs)[j]? = if j ∈ vs then (σV[j]?).map (fun _ => none) else σV[j]?
  | [] => by simp [L2.wipe]
  | v :: vs => by
    unfold L2.wipe
    by_cases q : v = j
    · subst q
      by_cases hl : v < σV.length
      · rw [List.getElem?_set_self (by rw [wipe_length]; exact hl), if_pos (by simp), List.getElem?_eq_getElem hl] <;> rfl
      · rw [List.getElem?_eq_none (by rw [List.length_set, wipe_length]; omega), if_pos (by simp), List.getElem?_eq_none (by omega)] <;> rfl
    · rw [List.getElem?_set_ne q, wipe_get]
      have : (j ∈ v :: vs) ↔ j ∈ vs := by simp [show j ≠ v from fun z => q z.symm]
      simp only [this]
theorem wipe_same {σV σ2 : L2.St} {vs sl : List Nat} (hs : ∀ j ∈ sl, j ∈ vs) (hl : σ2.length = (L2.wipe σV vs).length) (ho : ∀ j, j ∉ sl → σ2[j]? = (L2.wipe σV vs)[j]?) : L2.wipe σ2 vs = L2.wipe σV vs := by
  apply List.ext_getElem?
  intro j
  rw [wipe_get, wipe_get]
  by_cases q : j ∈ vs
  · rw [if_pos q, if_pos q]
    rw [wipe_length] at hl
    by_cases h1 : j < σV.length
    · rw [List.getElem?_eq_getElem (by omega), List.getElem?_eq_getElem h1] <;> rfl
    · rw [List.getElem?_eq_none (by omega), List.getElem?_eq_none (by omega)]
  · rw [if_neg q, if_neg q, ho j (fun z => q (hs j z)), wipe_get, if_neg q]
end
theorem nth_drop {ys : List D} : ∀ {i : Nat} {y : D} {r : List D}, ys.drop i = y :: r → nth ys i = some y ∧ ys.drop (i + 1) = r ∧ i < ys.length := by
  induction ys with
  | nil => intro i y r e; simp at e
  | cons a l ih =>
    intro i y r e
    cases i with
    | zero => simp at e; exact ⟨by simp [nth, e.1], by simp [e.2], by simp⟩
    | succ i =>
      simp only [List.drop_succ_cons] at e
      obtain ⟨h1, h2, h3⟩ := ih e
      exact ⟨by simpa [nth] using h1, by simpa using h2, by simp; exact h3⟩
theorem Wd.sub {c : Cf} {H : Hp} {A : List Addr} {p : Addr} {h : Hist} (w : Wd c H (p :: A) h) (b : Bin c.bx A) : Wd c H A h := ⟨fun a ha => w.dom a (List.mem_cons_of_mem _ ha), b, w.box⟩
/-- a place of one's own is written -/
theorem Wd.write {c : Cf} {H : Hp} {A : List Addr} {p : Addr} {o : HO} {h : Hist} (w : Wd c H A h) (n : some p ≠ c.bx) : Wd c (upd H p o) A h :=
  ⟨fun a ha => by
    by_cases e : a = p
    · subst e; exact ⟨o, upd_same⟩
    · obtain ⟨u, q⟩ := w.dom a ha; exact ⟨u, by rw [upd_ne e]; exact q⟩, w.bin, fun a e => by
    rw [upd_ne (fun z => n (by rw [← z]; exact e.symm))]; exact w.box a e⟩
theorem al_write {H : Hp} {A : List Addr} {p : Addr} {o : HO} (m : p ∈ A) : Al A A H (upd H p o) := ⟨fun a z => .inl z, fun a u n e => by rw [upd_ne (fun z => n (by rw [z]; exact m))]; exact e⟩
theorem Wd.nbx {c : Cf} {H : Hp} {A : List Addr} {h : Hist} (w : Wd c H A h) {p : Addr} (n : H p = none) : some p ≠ c.bx := fun e => by
  have := w.box p e.symm
  rw [n] at this; cases this
theorem Kp.wr {bx : Option Addr} {H1 H : Hp} {p : Addr} {o : HO} (k : Kp bx H1 H) (n : H1 p = Option.none) : Kp bx H1 (upd H p o) := fun a u q e => by
  rw [upd_ne (ne_of_none e n)]; exact k a u q e
section
variable {X : Cx} {c : Cf} {A : List Addr} {σ : Sl} {h h1 h' : Hist} {ys zs : List D} {tgt : Tg} {T Ef Kf : Sl → Hist → RE} {elt kx vx tg iter : Expr} {ifs : List Expr} {scope : Scope} {own : List (Str × Nat)} {pos : Pos}
theorem lc_read (hown : ∀ j ∈ slotsT tgt, j ∈ own.map (·.2))
    (e : compL tgt T Ef (wipeS σ (own.map (·.2))) ys h1 = .ok zs h') (hz : lenOk zs.length = true) : ∀ σV H Q, tEv c A σ h (.list zs) .fr h' σV H Q → tLc (tIt c A (fun a => c.bx = some a) σ h ys h1) (gTg c tgt) (gTs c T) (gEv c Ef) (own.map (·.2)) σV H Q := by
  intro σV H0 Q ⟨s, w, q⟩
  refine ⟨s, w, fun J H1 k1 w1 gs D hD => ?_⟩
  have nbx : some D ≠ c.bx := w1.nbx hD
  have nA : D ∉ A := w1.fresh hD
  have hzl : zs.length ≤ 16777216 := by have := lenOk_iff hz; rw [sizeLine_eq] at this; exact this
  have bD : Bin c.bx (D :: A) := fun a e => List.mem_cons_of_mem _ (w.bin a e)
  have sD : SsR c H1 (D :: A) (wipeS σ (own.map (·.2))) (L2.wipe σV (own.map (·.2))) := ((s.keep w.bin k1).more hD).wipe _
  refine ⟨fun i m H => m = ys.length - i ∧ i ≤ ys.length ∧ ∃ hi accV accD zs2, compL tgt T Ef (wipeS σ (own.map (·.2))) (ys.drop i) hi = .ok zs2 h' ∧ accD ++ zs2 = zs ∧ H D = some (.lst accV) ∧ RvL c H (D :: A) accV accD ∧ Wd c H (D :: A) hi ∧ Kp c.bx H1 H,
    ⟨_, rfl, Nat.zero_le _, h1, [], [], zs, by simpa using e, rfl, upd_same, .nil, ⟨fun a ha => ?_, bD, fun a ha => ?_⟩, Kp.new hD⟩, ?_⟩
  · rcases List.mem_cons.mp ha with z | z
    · subst z; exact ⟨_, upd_same⟩
    · obtain ⟨o, e1⟩ := w1.dom a z; exact ⟨o, by rw [upd_ne (ne_of_none e1 hD)]; exact e1⟩
  · have := w1.box a ha; rw [upd_ne (ne_of_none this hD)]; exact this
  rintro i m H ⟨rfl, hi0, hi, accV, accD, zs2, ec, ea, hHD, hr, hw, hk⟩
  have kk : ∀ a u, ¬ c.bx = some a → H1 a = some u → H a = some u := fun a u n e => hk a u (fun z => n z.symm) e
  have g := gs (D :: A) H i (fun a ha => by
    rcases List.mem_cons.mp ha with z | z
    · subst z; exact .inr hD
    · exact .inl z) hw.dom kk
  cases ed : ys.drop i with
  | nil =>
    rw [ed] at ec
    simp only [compL] at ec
    cases ec
    have hle : ys.length ≤ i := by simpa using ed
    refine .inl ⟨g.2 hle, ?_⟩
    rw [List.append_nil] at ea; subst ea
    exact q _ _ (k1.trans hk) (hw.sub w.bin) ⟨D, rfl, k1.none nbx hD, nA, .lst hHD hr⟩
  | cons y r =>
    obtain ⟨hn, hdr, hlt⟩ := nth_drop ed
    obtain ⟨hgo, hy⟩ := g.1 y hn
    rw [ed] at ec
    simp only [compL] at ec
    split at ec
    rotate_left
    · cases ec
    rename_i σ' eσ
    refine .inr ⟨hgo, fun H' => ∃ hi accV accD zs2, compL tgt T Ef (wipeS σ (own.map (·.2))) (ys.drop (i + 1)) hi = .ok zs2 h' ∧ accD ++ zs2 = zs ∧ H' D = some (.lst accV) ∧ RvL c H' (D :: A) accV accD ∧ Wd c H' (D :: A) hi ∧ Kp c.bx H1 H',
      fun H' n' => ⟨ys.length - (i + 1), by omega, rfl, hlt, n'⟩, fun x H2 yl => ?_⟩
    obtain ⟨ext, rx⟩ := hy x H2 yl
    have k2 : Kp c.bx H H2 := fun a u _ e => ext a u e
    have w2 : Wd c H2 (D :: A) hi := hw.same ext
    refine ⟨D :: A, _, y, σ', eσ, rx, sD.keep bD (hk.trans k2), fun σV' ss sl so => ⟨wipe_same hown sl so, ?_⟩⟩
    rw [hdr]
    split at ec
    · rename_i f2 h2 eT
      refine ⟨D :: A, σ', hi, true, f2, h2, eT, ss, w2, fun H3 k3 w3 => ?_⟩
      refine cast (if_pos rfl).symm ?_
      have key : ∀ x' f' h3', Ef σ' h2 = .ok x' f' h3' → f' ≠ .wk → f' ≠ .ct → (match compL tgt T Ef (wipeS σ (own.map (·.2))) r h3' with | .ok xs h => RI.ok (x' :: xs) h | .no => .no) = .ok zs2 h' →
          gEv c Ef σV' H3 fun y H4 => ∃ acc, H4 D = some (.lst acc) ∧ acc.length < sizeLine ∧ ∃ hi accV accD zs2, compL tgt T Ef (wipeS σ (own.map (·.2))) r hi = .ok zs2 h' ∧ accD ++ zs2 = zs ∧ (upd H4 D (.lst (acc ++ [y]))) D = some (.lst accV) ∧ RvL c (upd H4 D (.lst (acc ++ [y]))) (D :: A) accV accD ∧ Wd c (upd H4 D (.lst (acc ++ [y]))) (D :: A) hi ∧ Kp c.bx H1 (upd H4 D (.lst (acc ++ [y]))) := fun x' f' h3' eE n1 n2 em => by
        split at em
        rotate_left
        · cases em
        rename_i xs h4 e4
        cases em
        refine ⟨D :: A, σ', h2, x', f', h3', eE, ss.keep bD k3, w3, fun v H4 k4 w4 r4 => ⟨accV, (k2.trans (k3.trans k4)) D _ nbx hHD, ?_, h3', accV ++ [v], accD ++ [x'], xs, e4, by simpa using ea, upd_same, ?_, w4.write nbx, (hk.trans (k2.trans (k3.trans k4))).wr hD⟩⟩
        · rw [hr.length, sizeLine_eq]
          have : zs.length = accD.length + (xs.length + 1) := by rw [← ea]; simp
          omega
        · exact ((hr.keep bD (k2.trans (k3.trans k4))).append (.cons (r4.rv n1 n2) .nil)).step (al_write (List.mem_cons_self ..))
      split at ec
      · cases ec
      · cases ec
      · rename_i x' f' h3' n1 n2 eE
        exact key x' f' h3' eE (fun z => by subst z; exact n1 rfl) (fun z => by subst z; exact n2 rfl) ec
      · cases ec
    · rename_i f2 h2 eT
      refine ⟨D :: A, σ', hi, false, f2, h2, eT, ss, w2, fun H3 k3 w3 => ?_⟩
      refine cast (if_neg (by decide)).symm ?_
      exact ⟨h2, accV, accD, zs2, ec, ea, (k2.trans k3) D _ nbx hHD, hr.keep bD (k2.trans k3), w3, hk.trans (k2.trans k3)⟩
    · cases ec
theorem e_comp (hc : X.calm = true) (hN : X.N.Nodup) (hi : PI X tg iter (tIt c A (fun a => c.bx = some a) σ h ys h1)) (ok : BlkOk X.N X.env.scope scope own)
    (hg : ∀ (s : Shared) (H : Hp) (C : Addr) (cl : List (Str × Addr)) (fp : List Addr), PG (X.blk s H scope (compEnvC scope cl C X.env) fp) tg (gTg c tgt))
    (ht : ∀ (s : Shared) (H : Hp) (C : Addr) (cl : List (Str × Addr)) (fp : List Addr), PTs (X.blk s H scope (compEnvC scope cl C X.env) fp) ifs (gTs c T))
    (he : ∀ (s : Shared) (H : Hp) (C : Addr) (cl : List (Str × Addr)) (fp : List Addr), PE (X.blk s H scope (compEnvC scope cl C X.env) fp) elt (gEv c Ef)) (hs : ∀ x, foldedSetIterable iter X.env x = pure x)
    (hown : ∀ j ∈ slotsT tgt, j ∈ own.map (·.2)) (e : compL tgt T Ef (wipeS σ (own.map (·.2))) ys h1 = .ok zs h') (hz : lenOk zs.length = true) :
    PE X (.ListComp elt [⟨tg, iter, ifs, 0⟩] scope pos) (tEv c A σ h (.list zs) .fr h') :=
  (pe_lc hc hN hi ok hg ht he hs).mono (lc_read hown e hz)
/-! ### dicts that are written -/
theorem put_at {κ : Type} [DecidableEq κ] {g : κ → D} (inj : ∀ a b, PyData.eqv (g a) (g b) = decide (a = b)) (k : κ) {H : Hp} {v : V} {d : D} (rv : Rv c H A v d) {kvs : List (κ × V)} {ds : List (D × D)} (q : ds.map (fun p => p.1) = kvs.map (fun p => g p.1)) (l : RvL c H A (kvs.map (fun p => p.2)) (ds.map (fun p => p.2))) :
    (putKey (g k) d ds).map (fun p => p.1) = (putK kvs k v).map (fun p => g p.1) ∧ RvL c H A ((putK kvs k v).map (fun p => p.2)) ((putKey (g k) d ds).map (fun p => p.2)) := by
  have any : ∀ {kvs : List (κ × V)} {ds : List (D × D)}, ds.map (fun p => p.1) = kvs.map (fun p => g p.1) → hasKey (g k) ds = kvs.any fun kv => decide (kv.1 = k) := by
    intro kvs
    induction kvs with
    | nil => intro ds q; cases ds with
      | nil => rfl
      | cons _ _ => simp at q
    | cons p r ih =>
      intro ds q
      cases ds with
      | nil => simp at q
      | cons a t =>
        simp only [List.map_cons, List.cons.injEq] at q
        obtain ⟨a1, a2⟩ := a
        have q1 : a1 = g p.1 := q.1
        subst q1
        simp only [hasKey, List.any_cons, inj]
        cases hd : decide (p.1 = k) with
        | true => rfl
        | false => simp only [Bool.false_or]; exact ih q.2
  have mp : ∀ {kvs : List (κ × V)} {ds : List (D × D)}, ds.map (fun p => p.1) = kvs.map (fun p => g p.1) → RvL c H A (kvs.map (fun p => p.2)) (ds.map (fun p => p.2)) →
      (mapKey (g k) d ds).map (fun p => p.1) = (kvs.map (fun kv => if kv.1 = k then (kv.1, v) else kv)).map (fun p => g p.1) ∧ RvL c H A ((kvs.map (fun kv => if kv.1 = k then (kv.1, v) else kv)).map (fun p => p.2)) ((mapKey (g k) d ds).map (fun p => p.2)) := by
    intro kvs
    induction kvs with
    | nil => intro ds q l; cases ds with
      | nil => exact ⟨rfl, .nil⟩
      | cons _ _ => simp at q
    | cons p r ih =>
      intro ds q l
      cases ds with
      | nil => simp at q
      | cons a t =>
        simp only [List.map_cons, List.cons.injEq] at q
        obtain ⟨a1, a2⟩ := a
        have q1 : a1 = g p.1 := q.1
        subst q1
        simp only [List.map_cons] at l
        cases l with
        | cons l1 l2 =>
          obtain ⟨i1, i2⟩ := ih q.2 l2
          simp only [mapKey, inj]
          by_cases hd : p.1 = k
          · rw [decide_eq_true hd]
            simp only [List.map_cons, if_pos hd]
            exact ⟨by rw [i1], .cons rv i2⟩
          · rw [decide_eq_false hd]
            simp only [List.map_cons, if_neg hd]
            exact ⟨by rw [i1], .cons l1 i2⟩
  unfold putKey putK
  rw [any q]
  cases hd : kvs.any fun kv => decide (kv.1 = k) with
  | true => simp only [if_true]; exact mp q l
  | false =>
    simp only [Bool.false_eq_true, if_false, List.map_append, List.map_cons, List.map_nil]
    exact ⟨by rw [q], l.append (.cons rv .nil)⟩
theorem length_putKey {k v : D} {ds : List (D × D)} : (putKey k v ds).length ≤ ds.length + 1 := by
  have : ∀ l : List (D × D), (mapKey k v l).length = l.length := by
    intro l; induction l with
    | nil => rfl
    | cons a t ih =>
      obtain ⟨a1, a2⟩ := a
      simp only [mapKey]; split <;> simp [ih]
  unfold putKey
  split
  · rw [this]; omega
  · simp
theorem keyA_rv {H : Hp} {d : D} {v : V} (e : keyA d = true) (r : Rv c H A v d) : ∃ k : Key, d = keyD k ∧ v = kV k := keyA_of e (.inl r)
theorem dc_read (hown : ∀ j ∈ slotsT tgt, j ∈ own.map (·.2)) {d : D} {f : Fl}
    (e : dcompL tgt Kf Ef (wipeS σ (own.map (·.2))) ys [] h1 = .ok d f h') : ∀ σV H Q, tEv c A σ h d f h' σV H Q → tDc (tIt c A (fun a => c.bx = some a) σ h ys h1) (gTg c tgt) tYes (gEv c Kf) (gEv c Ef) (own.map (·.2)) σV H Q := by
  intro σV H0 Q ⟨s, w, q⟩
  refine ⟨s, w, fun J H1 k1 w1 gs D hD => ?_⟩
  have nbx : some D ≠ c.bx := w1.nbx hD
  have nA : D ∉ A := w1.fresh hD
  have bD : Bin c.bx (D :: A) := fun a e => List.mem_cons_of_mem _ (w.bin a e)
  have sD : SsR c H1 (D :: A) (wipeS σ (own.map (·.2))) (L2.wipe σV (own.map (·.2))) := ((s.keep w.bin k1).more hD).wipe _
  refine ⟨fun i m H => m = ys.length - i ∧ i ≤ ys.length ∧ ∃ hi kvs acc, dcompL tgt Kf Ef (wipeS σ (own.map (·.2))) (ys.drop i) acc hi = .ok d f h' ∧ H D = some (.dK kvs) ∧ acc.map (fun p => p.1) = kvs.map (fun p => keyD p.1) ∧ RvL c H (D :: A) (kvs.map (fun p => p.2)) (acc.map (fun p => p.2)) ∧ Wd c H (D :: A) hi ∧ Kp c.bx H1 H,
    ⟨_, rfl, Nat.zero_le _, h1, [], [], by simpa using e, upd_same, rfl, .nil, ⟨fun a ha => ?_, bD, fun a ha => ?_⟩, Kp.new hD⟩, ?_⟩
  · rcases List.mem_cons.mp ha with z | z
    · subst z; exact ⟨_, upd_same⟩
    · obtain ⟨o, e1⟩ := w1.dom a z; exact ⟨o, by rw [upd_ne (ne_of_none e1 hD)]; exact e1⟩
  · have := w1.box a ha; rw [upd_ne (ne_of_none this hD)]; exact this
  rintro i m H ⟨rfl, hi0, hi, kvs, acc, ec, hHD, hq, hr, hw, hk⟩
  have kk : ∀ a u, ¬ c.bx = some a → H1 a = some u → H a = some u := fun a u n e => hk a u (fun z => n z.symm) e
  have g := gs (D :: A) H i (fun a ha => by
    rcases List.mem_cons.mp ha with z | z
    · subst z; exact .inr hD
    · exact .inl z) hw.dom kk
  cases ed : ys.drop i with
  | nil =>
    rw [ed] at ec
    simp only [dcompL] at ec
    cases ec
    have hle : ys.length ≤ i := by simpa using ed
    refine .inl ⟨g.2 hle, ?_⟩
    exact q _ _ (k1.trans hk) (hw.sub w.bin) ⟨D, rfl, k1.none nbx hD, nA, .dK hHD hq hr⟩
  | cons y r =>
    obtain ⟨hn, hdr, hlt⟩ := nth_drop ed
    obtain ⟨hgo, hy⟩ := g.1 y hn
    rw [ed] at ec
    simp only [dcompL] at ec
    split at ec
    rotate_left
    · cases ec
    rename_i σ' eσ
    split at ec
    rotate_left
    · cases ec
    rename_i k h2 eK
    refine .inr ⟨hgo, fun H' => ∃ hi kvs acc, dcompL tgt Kf Ef (wipeS σ (own.map (·.2))) (ys.drop (i + 1)) acc hi = .ok d f h' ∧ H' D = some (.dK kvs) ∧ acc.map (fun p => p.1) = kvs.map (fun p => keyD p.1) ∧ RvL c H' (D :: A) (kvs.map (fun p => p.2)) (acc.map (fun p => p.2)) ∧ Wd c H' (D :: A) hi ∧ Kp c.bx H1 H',
      fun H' n' => ⟨ys.length - (i + 1), by omega, rfl, hlt, n'⟩, fun x H2 yl => ?_⟩
    obtain ⟨ext, rx⟩ := hy x H2 yl
    have k2 : Kp c.bx H H2 := fun a u _ e => ext a u e
    have w2 : Wd c H2 (D :: A) hi := hw.same ext
    refine ⟨D :: A, _, y, σ', eσ, rx, sD.keep bD (hk.trans k2), fun σV' ss sl so => ⟨wipe_same hown sl so, ?_⟩⟩
    rw [hdr]
    unfold tYes
    refine cast (if_pos rfl).symm ?_
    refine ⟨D :: A, σ', hi, k, .pl, h2, eK, ss, w2, fun vk H3 k3 w3 rk => ?_⟩
    have key : ∀ x' f' h3', Ef σ' h2 = .ok x' f' h3' → f' ≠ .wk → f' ≠ .ct → (match keyA k && (keyOk k acc && Nat.blt acc.length 1000000) with | true => dcompL tgt Kf Ef (wipeS σ (own.map fun (p : Str × Nat) => p.2)) r (putKey k x' acc) h3' | false => .no) = .ok d f h' →
        gEv c Ef σV' H3 fun z H5 => ∃ kvs k, vk = kV k ∧ H5 D = some (.dK kvs) ∧ kvs.length < sizeLine ∧ ∃ hi kvs' acc, dcompL tgt Kf Ef (wipeS σ (own.map (·.2))) r acc hi = .ok d f h' ∧ (upd H5 D (.dK (putK kvs k z))) D = some (.dK kvs') ∧ acc.map (fun p => p.1) = kvs'.map (fun p => keyD p.1) ∧ RvL c (upd H5 D (.dK (putK kvs k z))) (D :: A) (kvs'.map (fun p => p.2)) (acc.map (fun p => p.2)) ∧ Wd c (upd H5 D (.dK (putK kvs k z))) (D :: A) hi ∧ Kp c.bx H1 (upd H5 D (.dK (putK kvs k z))) := fun x' f' h3' eE n1 n2 em => by
      split at em
      rotate_left
      · cases em
      rename_i ek
      rw [Bool.and_eq_true, Bool.and_eq_true] at ek
      obtain ⟨κ, rfl, rfl⟩ := keyA_rv ek.1 (show Rv c H3 (D :: A) vk k from rk)
      refine ⟨D :: A, σ', h2, x', f', h3', eE, ss.keep bD k3, w3, fun v H4 k4 w4 r4 => ?_⟩
      have hl : kvs.length < sizeLine := by
        have e1 : acc.length = kvs.length := by have := congrArg List.length hq; simpa using this
        have e2 : acc.length < 1000000 := by simpa using ek.2.2
        rw [← e1, sizeLine_eq]; omega
      obtain ⟨p1, p2⟩ := put_at (c := c) (A := D :: A) (H := H4) eqv_keyD κ (r4.rv n1 n2) hq (hr.keep bD (k2.trans (k3.trans k4)))
      exact ⟨kvs, κ, rfl, (k2.trans (k3.trans k4)) D _ nbx hHD, hl, h3', _, _, em, upd_same, p1, p2.step (al_write (List.mem_cons_self ..)), w4.write nbx, (hk.trans (k2.trans (k3.trans k4))).wr hD⟩
    split at ec
    · cases ec
    · cases ec
    · rename_i x' f' h3' n1 n2 eE
      exact key x' f' h3' eE (fun z => by subst z; exact n1 rfl) (fun z => by subst z; exact n2 rfl) ec
    · cases ec
theorem e_dcomp (hc : X.calm = true) (hN : X.N.Nodup) (hi : PI X tg iter (tIt c A (fun a => c.bx = some a) σ h ys h1)) (ok : BlkOk X.N X.env.scope scope own)
    (hg : ∀ (s : Shared) (H : Hp) (C : Addr) (cl : List (Str × Addr)) (fp : List Addr), PG (X.blk s H scope (compEnvC scope cl C X.env) fp) tg (gTg c tgt))
    (hk : ∀ (s : Shared) (H : Hp) (C : Addr) (cl : List (Str × Addr)) (fp : List Addr), PE (X.blk s H scope (compEnvC scope cl C X.env) fp) kx (gEv c Kf))
    (he : ∀ (s : Shared) (H : Hp) (C : Addr) (cl : List (Str × Addr)) (fp : List Addr), PE (X.blk s H scope (compEnvC scope cl C X.env) fp) vx (gEv c Ef)) (hs : ∀ x, foldedSetIterable iter X.env x = pure x)
    (hown : ∀ j ∈ slotsT tgt, j ∈ own.map (·.2)) {d : D} {f : Fl} (e : dcompL tgt Kf Ef (wipeS σ (own.map (·.2))) ys [] h1 = .ok d f h') :
    PE X (.DictComp kx vx [⟨tg, iter, [], 0⟩] scope pos) (tEv c A σ h d f h') :=
  (pe_dc hc hN hi ok hg (fun _ _ _ _ _ => pts_nil) hk he hs).mono (dc_read hown e)
/-! ### d.get(k, x) -/
theorem e_get2 {a e1 e2 : Expr} {apos cpos : Pos} {x k d z : D} {f fl : Fl} {h2 h3 : Hist} (hu : X.A.units + 65 < cLine) (ha : PE X a (tEv c A σ h x f h1)) (hf : f ≠ .ct) {f1 f2 : Fl} (h_1 : PE X e1 (tEv c A σ h1 k f1 h2)) (n1 : f1 ≠ .ct) (h_2 : PE X e2 (tEv c A σ h2 d f2 h3)) (n2 : f2 ≠ .wk) (n3 : f2 ≠ .ct)
    (e : metV .get2 x [k, d] h3 = .ok z fl h') (m : M2 X a "get" apos e1 e2 cpos) : PE X (.Call (.Attribute a "get" apos) [e1, e2] [] cpos) (tEv c A σ h z fl h') := by
  unfold metV at e
  split at e
  rotate_left
  · cases e
  rename_i kvs k0 d0 _ ee
  simp only [List.cons.injEq, and_true] at ee
  obtain ⟨rfl, rfl⟩ := ee
  split at e
  rotate_left
  · cases e
  rename_i ek
  refine ⟨fun pins s σV H Q I ⟨q1, q2, q3⟩ => ?_⟩
  have isd : ∀ {H : Hp} {v : V}, Wn c H A v (.dict kvs) → ∃ b, v = .ref b ∧ IsD H b := fun {H v} w => by
    rcases w with r | ⟨b, rfl, _, o⟩
    · cases r with
      | dic hd _ =>
        rcases hd with ⟨kv, ⟨h1, _⟩, _⟩ | ⟨kv, ⟨h1, _⟩, _⟩
        · exact ⟨_, rfl, .inl ⟨kv, h1⟩⟩
        · exact ⟨_, rfl, .inr ⟨kv, h1⟩⟩
    · cases o with
      | dK e _ _ => exact ⟨b, rfl, .inl ⟨_, .inl e⟩⟩
      | dT e _ _ => exact ⟨b, rfl, .inr ⟨_, .inl e⟩⟩
  refine wpAny_Call_method m.base m.few m.line PySem.F.plainAttrs_dict PySem.F.slot_dict_get PySem.F.type_dict_get (thn (ha.run pins s σV H (fun v H1 => Kp c.bx H H1 ∧ Wd c H1 A h1 ∧ Wn c H1 A v (.dict kvs)) I ⟨q1, q2, fun v H1 k1 w1 r1 => ⟨k1, w1, r1.wn hf⟩⟩) fun u s1 ⟨xv, H1, I1, rx, k1, w1, wn⟩ => ?_)
  obtain ⟨b, rfl, hd⟩ := isd wn
  obtain rfl : u = Value.ref b := rx
  obtain ⟨t1, t2, _⟩ := isD_at I1 hd
  refine ⟨t1, t2, ?_⟩
  rw [m.trees]
  have s1' := q1.keep q2.bin k1
  refine Calls.callWith_builtin rfl (Calls.evalArgs_plain (Calls.spliced_cons (thn (h_1.run pins s1 σV H1 (fun y H2 => Kp c.bx H1 H2 ∧ Wd c H2 A h2 ∧ Wn c H2 A y k) I1 ⟨s1', w1, fun v H2 k2 w2 r2 => ⟨k2, w2, r2.wn n1⟩⟩) fun iv s2 ⟨y, H2, I2, ry, k2, w2, wy⟩ =>
    Calls.spliced_cons (thn (h_2.run pins s2 σV H2 (fun z H3 => Kp c.bx H2 H3 ∧ Wd c H3 A h3 ∧ Rv c H3 A z d) I2 ⟨s1'.keep q2.bin k2, w2, fun v H3 k3 w3 r3 => ⟨k3, w3, r3.rv n2 n3⟩⟩) fun fv s3 ⟨zz, H3, I3, rz, k3, w3, wz⟩ => Calls.spliced_nil ?_))))
  obtain ⟨b', H4, ov, eb, I4, back, dg, hov⟩ := dlook I3 (wn.keep q2.bin (k2.trans k3)) (wy.keep q2.bin k3) ek
  cases eb
  refine d_get2 (by omega) I4 dg ry rz fun w' s4 I5 rw' => ⟨_, H3, back _ I5, rw', ?_⟩
  rcases hov with ⟨g1, rfl⟩ | ⟨dd, v, g1, rfl, rv⟩
  · rw [g1] at e; cases e
    exact q3 _ _ (k1.trans (k2.trans k3)) w3 wz
  · rw [g1] at e; cases e
    exact q3 _ _ (k1.trans (k2.trans k3)) w3 rv
end
end Og

end
section
set_option Elab.async false
set_option linter.all false
set_option maxRecDepth 100000
set_option maxHeartbeats 4000000
/-! dict(pairs). -/
namespace Og
open PySem PySem.Spec PyProof.Rows L2
section
variable {X : Cx} {c : Cf} {A : List Addr} {H : Hp} {h h' : Hist}
/-- pairs of values, read -/
inductive Pv (c : Cf) (H : Hp) (A : List Addr) : List (V × V) → List (D × D) → Prop
  | nil : Pv c H A [] []
  | cons {k v : V} {vvs : List (V × V)} {dk dv : D} {ps : List (D × D)} : Rv c H A k dk → Rv c H A v dv → Pv c H A vvs ps → Pv c H A ((k, v) :: vvs) ((dk, dv) :: ps)
theorem Pv.keep {H' : Hp} (b : Bin c.bx A) (k : Kp c.bx H H') : ∀ {vvs : List (V × V)} {ps : List (D × D)}, Pv c H A vvs ps → Pv c H' A vvs ps
  | _, _, .nil => .nil
  | _, _, .cons r1 r2 t => .cons (r1.keep b k) (r2.keep b k) (t.keep b k)
theorem Pv.length : ∀ {vvs : List (V × V)} {ps : List (D × D)}, Pv c H A vvs ps → vvs.length = ps.length
  | _, _, .nil => rfl
  | _, _, .cons r1 r2 t => by simp [t.length]
theorem pairs_rv : ∀ {vs : List V} {xs : List D} {ps : List (D × D)}, RvL c H A vs xs → pairs xs = some ps → ∃ as vvs, vs = as.map V.ref ∧ Pv c H A vvs ps ∧ Paired (fun a (xy : V × V) => H a = some (.tup [xy.1, xy.2])) as vvs
  | _, _, _, .nil, e => by simp [pairs] at e; subst e; exact ⟨[], [], rfl, .nil, .nil⟩
  | _, _, _, .cons (v := v) (d := d) r t, e => by
    unfold pairs at e
    split at e
    · rename_i he; cases he
    · rename_i k x l he
      cases he
      split at e
      · rename_i ps' e'
        cases e
        obtain ⟨as, vvs, rfl, p, pp⟩ := pairs_rv t e'
        cases r with
        | tup h1 r1 =>
          cases r1 with
          | cons rk r2 =>
            cases r2 with
            | cons rx r3 =>
              cases r3
              exact ⟨_ :: as, _ :: vvs, rfl, .cons rk rx p, .cons h1.1 pp⟩
      · cases e
    · cases e
theorem putKey_ne {k v : D} {l : List (D × D)} : putKey k v l ≠ [] := by
  unfold putKey
  cases l with
  | nil => simp [hasKey]
  | cons p r =>
    obtain ⟨q, u⟩ := p
    split
    · simp only [mapKey]; split <;> simp
    · simp
/-- keys by value -/
theorem mergeA : ∀ {vvs : List (V × V)} {ps : List (D × D)}, Pv c H A vvs ps → ∀ {acc out : List (D × D)} {kacc : List (Key × V)}, acc.map (fun p => p.1) = kacc.map (fun p => keyD p.1) → RvL c H A (kacc.map (fun p => p.2)) (acc.map (fun p => p.2)) →
    (acc ≠ [] ∨ ∀ k v r, ps = (k, v) :: r → keyA k = true) → mergeD ps acc = some out →
    ∃ kvs : List (Key × V), vvs = kvs.map (fun kv => (kV kv.1, kv.2)) ∧ out.map (fun p => p.1) = (mergeK kacc kvs).map (fun p => keyD p.1) ∧ RvL c H A ((mergeK kacc kvs).map (fun p => p.2)) (out.map (fun p => p.2))
  | _, _, .nil, acc, out, kacc, q, r, _, e => by
    simp only [mergeD] at e
    cases e
    exact ⟨[], rfl, q, r⟩
  | _, _, .cons (k := kv) (v := xv) (dk := dk) (dv := dv) rk rx t, acc, out, kacc, q, r, ha, e => by
    simp only [mergeD] at e
    split at e
    · rename_i ok
      have hk : keyA dk = true := by
        cases hk : keyA dk with
        | true => rfl
        | false =>
          unfold keyOk at ok
          rw [hk] at ok
          rcases ha with ha | ha
          · cases acc with
            | nil => exact absurd rfl ha
            | cons p t2 =>
              cases kacc with
              | nil => simp at q
              | cons p2 t3 =>
                simp only [List.map_cons, List.cons.injEq] at q
                simp only [List.all_cons, Bool.and_eq_true] at ok
                have := ok.2.1
                rw [q.1] at this
                generalize p2.1 = kk at this
                cases kk <;> simp [keyD, keyT] at this
          · have := ha dk dv _ rfl
            rw [hk] at this; cases this
      obtain ⟨κ, rfl, rfl⟩ := keyA_of hk (.inl rk)
      obtain ⟨p1, p2⟩ := put_at (c := c) (A := A) (H := H) eqv_keyD κ rx q r
      obtain ⟨kvs, z1, z2, z3⟩ := mergeA t p1 p2 (.inl putKey_ne) e
      exact ⟨(κ, xv) :: kvs, by rw [z1]; rfl, z2, z3⟩
    · cases e
/-- keys that are tuples -/
def mergeT (kvs more : List (List Key × V)) : List (List Key × V) := more.foldl (fun acc kv => putK acc kv.1 kv.2) kvs
theorem mergeTd : ∀ {vvs : List (V × V)} {ps : List (D × D)}, Pv c H A vvs ps → ∀ {acc out : List (D × D)} {kacc : List (List Key × V)}, acc.map (fun p => p.1) = kacc.map (fun p => .tuple (p.1.map keyD)) → RvL c H A (kacc.map (fun p => p.2)) (acc.map (fun p => p.2)) →
    (acc ≠ [] ∨ ∀ k v r, ps = (k, v) :: r → keyA k = false) → mergeD ps acc = some out →
    ∃ kvs : List (List Key × Addr × V), vvs = kvs.map (fun kv => (.ref kv.2.1, kv.2.2)) ∧ (∀ kv ∈ kvs, H kv.2.1 = some (.tup (kv.1.map kV))) ∧ out.map (fun p => p.1) = (mergeT kacc (kvs.map fun x => (x.1, x.2.2))).map (fun p => .tuple (p.1.map keyD)) ∧
      RvL c H A ((mergeT kacc (kvs.map fun x => (x.1, x.2.2))).map (fun p => p.2)) (out.map (fun p => p.2))
  | _, _, .nil, acc, out, kacc, q, r, _, e => by
    simp only [mergeD] at e
    cases e
    exact ⟨[], rfl, (fun _ m => nomatch m), q, r⟩
  | _, _, .cons (k := kv) (v := xv) (dk := dk) (dv := dv) rk rx t, acc, out, kacc, q, r, ha, e => by
    simp only [mergeD] at e
    split at e
    · rename_i ok
      have hk : keyA dk = false := by
        cases hk : keyA dk with
        | false => rfl
        | true =>
          unfold keyOk at ok
          rw [hk] at ok
          rcases ha with ha | ha
          · cases acc with
            | nil => exact absurd rfl ha
            | cons p t2 =>
              cases kacc with
              | nil => simp at q
              | cons p2 t3 =>
                simp only [List.map_cons, List.cons.injEq] at q
                simp only [List.all_cons, Bool.and_eq_true] at ok
                have := ok.1
                rw [q.1] at this
                simp [keyA] at this
          · have := ha dk dv _ rfl
            rw [hk] at this; cases this
      unfold keyOk at ok
      rw [hk] at ok
      simp only [Bool.and_eq_true] at ok
      obtain ⟨κ, b, rfl, rfl, hb⟩ := keyT_of ok.1 (.inl rk)
      obtain ⟨p1, p2⟩ := put_at (c := c) (A := A) (H := H) (g := fun l : List Key => .tuple (l.map keyD)) eqv_keyT κ rx q r
      obtain ⟨kvs, z1, z0, z2, z3⟩ := mergeTd t p1 p2 (.inl putKey_ne) e
      refine ⟨(κ, b, xv) :: kvs, by rw [z1]; rfl, fun y m => ?_, z2, z3⟩
      rcases List.mem_cons.mp m with e | m
      · rw [e]; exact hb
      · exact z0 y m
    · cases e
theorem KT.merge {H : Hp} : ∀ {kvs : List (List Key × Addr × V)} {xs : List (List Key × Addr × Value)} {acc : List (List Key × V)} {ys : List (List Key × Addr × Value)},
    Paired (fun (p : List Key × Addr × V) (q : List Key × Addr × Value) => p.1 = q.1 ∧ p.2.1 = q.2.1 ∧ H p.2.1 = some (.tup (p.1.map kV)) ∧ RelV p.2.2 q.2.2) kvs xs → KT H acc ys → KT H (mergeT acc (kvs.map fun x => (x.1, x.2.2))) (storedAllH ys xs)
  | _, _, _, _, .nil, r => r
  | _, _, _, _, .cons (a := p) (b := q) h t, r => by
    obtain ⟨e1, e2, e3, e4⟩ := h
    show KT H (mergeT (putK _ p.1 p.2.2) _) (storedAllH (storedH _ q.1 q.2.1 q.2.2) _)
    rw [← e1, ← e2]
    exact KT.merge t (r.put p.1 e3 e4)
theorem length_mergeT : ∀ (more kvs : List (List Key × V)), (mergeT kvs more).length ≤ kvs.length + more.length
  | [], kvs => by simp [mergeT]
  | p :: r, kvs => by
    have h1 := length_mergeT r (putK kvs p.1 p.2)
    have h2 := length_putK kvs p.1 p.2
    show (mergeT (putK kvs p.1 p.2) r).length ≤ _
    simp only [List.length_cons]
    omega
/-- what stands in the heap -/
theorem pairsT_of {pins : List (Addr × Obj)} {σ : L2.St} {s : Shared} (I : Inv X pins σ H s) : ∀ {as : List Addr} {kvs : List (List Key × Addr × V)}, Paired (fun p (kv : List Key × Addr × V) => H p = some (.tup [.ref kv.2.1, kv.2.2]) ∧ H kv.2.1 = some (.tup (kv.1.map kV))) as kvs →
    ∃ xs : List (List Key × Addr × Value), xs.length = as.length ∧ Paired (fun (p : List Key × Addr × V) (q : List Key × Addr × Value) => p.1 = q.1 ∧ p.2.1 = q.2.1 ∧ H p.2.1 = some (.tup (p.1.map kV)) ∧ RelV p.2.2 q.2.2) kvs xs ∧
      ∀ (j : Nat) (q : List Key × Addr × Value), xs[j]? = some q → ∃ b, as[j]? = some b ∧ IsTup s.heap b #[.ref q.2.1, q.2.2] ∧ (tupleKind (mixKind X.prog X.w)).is s.heap q.1 q.2.1
  | _, _, .nil => ⟨[], rfl, .nil, fun j q e => by simp at e⟩
  | _, _, .cons (a := p) (b := kv) h t => by
    obtain ⟨xs, hl, hp, hh⟩ := pairsT_of I t
    obtain ⟨its, rv, ht, _⟩ := I.tuple (SqT.of (K := X.K) h.1)
    obtain ⟨u, y, ei, ru, ry⟩ := vals2 rv
    subst ei
    cases (show u = .ref kv.2.1 from ru)
    refine ⟨(kv.1, kv.2.1, y) :: xs, by simp [hl], .cons ⟨rfl, rfl, h.2, ry⟩ hp, fun j q e => ?_⟩
    cases j with
    | zero =>
      have e' : (kv.1, kv.2.1, y) = q := Option.some.inj e
      subst e'
      exact ⟨p, rfl, ht, key_of I.hok h.2⟩
    | succ j =>
      obtain ⟨b, e1, e2, e3⟩ := hh j q (by simpa using e)
      exact ⟨b, by simpa using e1, e2, e3⟩
theorem call_dictT (hcalm : X.calm = true) (hu : X.A.units + 65 < cLine) {pins : List (Addr × Obj)} {σ : L2.St} {s : Shared} {a : Addr} {as : List Addr} {kvs : List (List Key × Addr × V)} {us : List Value} {Q : VK} (I : Inv X pins σ H s) (r : Vals [.ref a] us) (hq : SqL X.K H a (as.map V.ref))
    (hp : Paired (fun p (kv : List Key × Addr × V) => H p = some (.tup [.ref kv.2.1, kv.2.2]) ∧ H kv.2.1 = some (.tup (kv.1.map kV))) as kvs)
    (q : ∀ p, H p = none → Q (.ref p) (upd H p (.dT (mergeT [] (kvs.map fun x => (x.1, x.2.2)))))) : wpAny (model X.prog X.w) X.A (call (.type "dict") us) (EP X pins σ Q) X.xe s := by
  rw [Vals.ref1 r]
  obtain ⟨its, rv, pl, hz⟩ := I.list hq
  have ei := refs_at rv
  subst ei
  rw [List.length_map] at hz
  obtain ⟨xs, hl, rel, hpr⟩ := pairsT_of I hp
  obtain ⟨o, n, ho, hc, hd, hdat⟩ := pl
  have hlk : kvs.length = xs.length := Paired.length rel
  have P := PairArg.list (prog := X.prog) (w := X.w) a (as.map Value.ref).toArray (fun j => as.getD j 0) (xs.map fun x => (Value.ref x.2.1, x.2.2))
  have ok : PlainSeq "list" s.heap a (as.map Value.ref).toArray ∧ PairItems s.heap (as.map Value.ref).toArray (fun j => as.getD j 0) (xs.map fun x => (Value.ref x.2.1, x.2.2)) := by
    refine ⟨⟨o, n, ho, hc, hd, hdat⟩, by simp [hl], fun j k v e => ?_⟩
    rw [List.getElem?_map] at e
    cases ex : xs[j]? with
    | none => rw [ex] at e; cases e
    | some y =>
      rw [ex] at e
      cases e
      obtain ⟨b, e1, e2, e3⟩ := hpr j y ex
      have eb : as.getD j 0 = b := by rw [List.getD_eq_getElem?_getD, e1]; rfl
      refine ⟨by simp [e1], .inl ?_⟩
      show s.heap.IsTuple (as.getD j 0) _
      rw [eb]
      exact e2
  refine call_dict_pairsH (knd := tupleKind (mixKind X.prog X.w)) (ps := xs) P (I.ok.hd hcalm) (tupleKind_room_in1 (by show X.A.units + 1 + 1 < cLine; omega)) ok ⟨by simp, fun i key v e => ?_⟩ (fun h' hk x hx => ?_) (by simp [hl]; exact hz) fun h' tk hd' k => ?_
  · have e : (xs.map fun x => (Value.ref x.2.1, x.2.2))[i]? = some (key, v) := e
    rw [List.getElem?_map] at e
    cases ex : xs[i]? with
    | none => rw [ex] at e; cases e
    | some y =>
      rw [ex] at e
      cases e
      exact ⟨y.1, y.2.1, rfl, rfl⟩
  · obtain ⟨j, hj, ej⟩ := List.getElem_of_mem hx
    obtain ⟨b, e1, e2, e3⟩ := hpr j x (by rw [List.getElem?_eq_getElem hj, ej])
    obtain ⟨o2, its2, n2, g1, g2, g3, g4⟩ := e3
    exact ⟨o2, its2, n2, hk _ _ (Nat.ne_of_lt (Heap.lt_size g1)) (fun z => nomatch z) g1, g2, g3, g4⟩
  · have hm : (s.heap.objs.size == sysModules) = false := beq_eq_false_iff_ne.mpr (Nat.ne_of_gt I.big)
    have hlen : (mergeT [] (kvs.map fun x => (x.1, x.2.2))).length ≤ sizeLine := by
      refine Nat.le_trans (length_mergeT _ []) ?_
      rw [List.length_nil, Nat.zero_add, List.length_map, hlk, hl]
      exact hz
    have hnn : H s.heap.objs.size = none := I.hok.fresh (Nat.le_refl _)
    obtain ⟨ob, es, ep, hq', h2, h3, h4, _, h5⟩ := hd'
    refine ⟨.ref s.heap.objs.size, upd H s.heap.objs.size (.dT _), I.laid (t' := tk) (fun b o e => k b o (fun z => nomatch z) e) (Nat.le_refl _) (show ObjOk X.prog X.w _ _ _ (.dT _) from ⟨hlen, hm, _, (KT.merge rel .nil).keeps fun b ys e => ?_, ob, es, ep, hq', h2, h3, h4, h5⟩), rfl, q _ hnn⟩
    rw [upd_ne (ne_of_none e hnn)]; exact e
theorem newK {p : Addr} {kvs : List (Key × V)} {ds : List (D × D)} (w : Wd c H A h) (hp : H p = none) (q : ds.map (fun p => p.1) = kvs.map (fun p => keyD p.1)) (r : RvL c H A (kvs.map (fun p => p.2)) (ds.map (fun p => p.2))) : Vl c A H (upd H p (.dK kvs)) (.ref p) (.dict ds) .fr :=
  ⟨p, rfl, hp, w.fresh hp, .dK upd_same q (newL w.bin hp r)⟩
theorem newDT {p : Addr} {kvs : List (List Key × V)} {ds : List (D × D)} (w : Wd c H A h) (hp : H p = none) (q : ds.map (fun p => p.1) = kvs.map (fun p => .tuple (p.1.map keyD))) (r : RvL c H A (kvs.map (fun p => p.2)) (ds.map (fun p => p.2))) : Vl c A H (upd H p (.dT kvs)) (.ref p) (.dict ds) .fr :=
  ⟨p, rfl, hp, w.fresh hp, .dT upd_same q (newL w.bin hp r)⟩
theorem pairedK {K : PySem.W.Frag} : ∀ {as : List Addr} {kvs : List (Key × V)}, Paired (fun a (xy : V × V) => H a = some (.tup [xy.1, xy.2])) as (kvs.map fun kv => (kV kv.1, kv.2)) → Paired (fun p kv => SqT K H p [kV kv.1, kv.2]) as kvs
  | [], [], _ => .nil
  | [], _ :: _, h => by rw [List.map_cons] at h; cases h
  | _ :: _, [], h => by rw [List.map_nil] at h; cases h
  | a :: as, kv :: kvs, h => by
    rw [List.map_cons] at h
    cases h with
    | cons h t => exact .cons (SqT.of h) (pairedK t)
theorem pairedT : ∀ {as : List Addr} {kvs : List (List Key × Addr × V)}, (∀ kv ∈ kvs, H kv.2.1 = some (.tup (kv.1.map kV))) → Paired (fun a (xy : V × V) => H a = some (.tup [xy.1, xy.2])) as (kvs.map fun kv => (.ref kv.2.1, kv.2.2)) →
    Paired (fun p (kv : List Key × Addr × V) => H p = some (.tup [.ref kv.2.1, kv.2.2]) ∧ H kv.2.1 = some (.tup (kv.1.map kV))) as kvs
  | [], [], _, _ => .nil
  | [], _ :: _, _, h => by rw [List.map_cons] at h; cases h
  | _ :: _, [], _, h => by rw [List.map_nil] at h; cases h
  | a :: as, kv :: kvs, m, h => by
    rw [List.map_cons] at h
    cases h with
    | cons h t => exact .cons ⟨h, m kv (by simp)⟩ (pairedT (fun x q => m x (by simp [q])) t)
theorem bl_dict1 {as : List D} {z : D} {f : Fl} (hK : X.K = c.K) (hc : X.calm = true) (hu : X.A.units + 65 < cLine) (e : bltV .dict1 as h = .ok z f h') : CallR X (.type "dict") (rBl c A h as z f h') := by
  intro pins s σ H xs us Q I r ⟨wl, hw, q⟩
  match as, e with
  | [.list l], e =>
    obtain ⟨v, rfl, wv⟩ := wl.one
    simp only [bltV] at e
    split at e
    · rename_i ps ep
      split at e
      · rename_i kvs em
        cases e
        obtain ⟨a, vs, rfl, ha, ra⟩ := wv.wr.lst
        obtain ⟨as, vvs, rfl, pr, pp⟩ := pairs_rv ra ep
        by_cases hA : ∀ k v r, ps = (k, v) :: r → keyA k = true
        · obtain ⟨kv, z1, z2, z3⟩ := mergeA pr (acc := []) (kacc := []) rfl .nil (.inr hA) em
          exact call_dictP hc pins s σ H _ us Q I r ⟨a, as, kv, rfl, SqL.of ha, pairedK (z1 ▸ pp), fun p hp => q _ _ (Kp.new hp) (hw.new hp) (newK hw hp z2 z3)⟩
        · have hT : ∀ k v r, ps = (k, v) :: r → keyA k = false := fun k v r ee => by
            cases hk : keyA k with
            | false => rfl
            | true =>
              refine absurd (fun k' v' r' ee' => ?_) hA
              rw [ee] at ee'
              cases ee'
              exact hk
          obtain ⟨kv, z1, z0, z2, z3⟩ := mergeTd pr (acc := []) (kacc := []) rfl .nil (.inr hT) em
          exact call_dictT hc hu I r (SqL.of ha) (pairedT z0 (z1 ▸ pp)) fun p hp => q _ _ (Kp.new hp) (hw.new hp) (newDT hw hp z2 z3)
      · cases e
    · cases e
/-! ### displays -/
section
variable {prog : Program} {w : World} {A : Around} {E : Value → Shared → Prop} {s : Shared} {K : Type} [DecidableEq K] {knd : HeapKind prog w K}
theorem dict_walkT {env : Env} {keys : List (Option Expr)} {values : List Expr} {pos : Pos} {Q : Value → Shared → Prop} (hu : knd.room A)
    (hall : keys.all (·.isSome) = true) (hl : keys.length = values.length) (h0 : keys ≠ []) (hlen : keys.length ≤ 15)
    (h : wpAny (model prog w) A (evalPairs (pairTrees keys values env pos)) (fun vs s₁ => ∃ ps, CarriesH knd s₁.heap vs ps ∧ s₁.heap.DictOfH knd s.heap.objs.size [] ∧
      ∀ h' tk, h'.DictOfH knd s.heap.objs.size (storedAllH [] ps) → Heap.SameBut s.heap.objs.size s₁.heap h' → Q (.ref s.heap.objs.size) { s₁ with heap := h', toks := tk }) E
      { s with heap := s.heap.push { cls := .type "dict", data := .dict #[] } }) :
    wpAny (model prog w) A (eval (.Dict keys values pos) env) Q E s := by
  have hn := pairTrees_length keys values env pos hall hl
  have hne : pairTrees keys values env pos ≠ [] := by
    intro he
    rw [he] at hn
    exact h0 (List.length_eq_zero_iff.mp hn.symm)
  rw [arm_eval_Dict, zip_pairTrees keys values env pos hall hl, dictDisplay_pairs _ hne (by omega)]
  exact wpAny_bind (wpAny_standAt (wpAny_bind (wpAny_subDictH (knd := knd) (Q := fun d s' => wpAny (model prog w) A (pure (Value.ref d)) Q E s') hu (by omega)
    (wpAny_mono h (fun vs s₁ h₁ => by obtain ⟨ps, hc, hm, hq⟩ := h₁; exact ⟨ps, hc, hm, fun h' tk a b => wpAny_pure (hq h' tk a b)⟩) fun _ _ e => e))))
end
theorem carriesT {pins : List (Addr × Obj)} {σ : L2.St} {s : Shared} (I : Inv X pins σ H s) : ∀ {kvs : List (List Key × Addr × V)} {ws : List (Value × Value)}, VV (kvs.map fun kv => (V.ref kv.2.1, kv.2.2)) ws → (∀ kv ∈ kvs, H kv.2.1 = some (.tup (kv.1.map kV))) →
    ∃ xs : List (List Key × Addr × Value), CarriesH (tupleKind (mixKind X.prog X.w)) s.heap ws xs ∧ Paired (fun (p : List Key × Addr × V) (q : List Key × Addr × Value) => p.1 = q.1 ∧ p.2.1 = q.2.1 ∧ H p.2.1 = some (.tup (p.1.map kV)) ∧ RelV p.2.2 q.2.2) kvs xs
  | [], _, r, _ => by rw [List.map_nil] at r; cases r; exact ⟨[], True.intro, .nil⟩
  | p :: kvs, _, r, m => by
    rw [List.map_cons] at r
    cases r with
    | @cons a b as bs h t =>
      obtain ⟨rs, c, q⟩ := carriesT I t fun x z => m x (by simp [z])
      obtain ⟨b1, b2⟩ := b
      cases (show b1 = Value.ref p.2.1 from h.1)
      have hp := m p (by simp)
      exact ⟨(p.1, p.2.1, b2) :: rs, ⟨rfl, rfl, key_of I.hok hp, c⟩, .cons ⟨rfl, rfl, hp, h.2⟩ q⟩
def tDispT (trs : List (TE × TE)) : TE := fun σ H Q => ∀ p, H p = none → tPairs trs σ (upd H p (.dT [])) fun ps H2 => H2 p = some (.dT []) ∧ ∃ kvs : List (List Key × Addr × V), ps = kvs.map (fun kv => (V.ref kv.2.1, kv.2.2)) ∧ (∀ kv ∈ kvs, H2 kv.2.1 = some (.tup (kv.1.map kV))) ∧ kvs.length ≤ 15 ∧
  Q (.ref p) (upd H2 p (.dT (mergeT [] (kvs.map fun x => (x.1, x.2.2)))))
theorem pe_dispT {pos : Pos} {keys : List (Option Expr)} {values : List Expr} {trs : List (TE × TE)} (hu : X.A.units + 65 < cLine) (h : PPs X pos keys values trs) (hall : keys.all (·.isSome) = true) (hl : keys.length = values.length) (h0 : keys ≠ [])
    (h15 : keys.length ≤ 15) : PE X (.Dict keys values pos) (tDispT trs) := by
  refine ⟨fun pins s σ H Q I q => ?_⟩
  have hn := I.hok.fresh (Nat.le_refl s.heap.objs.size)
  have I1 := I.laid (a := s.heap.objs.size) (o := .dT []) (h' := s.heap.push { cls := .type "dict", data := .dict #[] }) (t' := s.toks) (fun _ _ q => Heap.get?_push_of_some _ q) (Nat.le_refl _) (dt_empty s.heap I.big)
  refine dict_walkT (knd := tupleKind (mixKind X.prog X.w)) (show X.A.units < cLine by omega) hall hl h0 h15 (thn (h.run pins _ σ _ _ I1 (q _ hn)) fun ws s2 ⟨ps, H2, I2, rel, e, kvs, ep, hk, lk, q2⟩ => ?_)
  subst ep
  obtain ⟨rs, c, rk⟩ := carriesT I2 rel hk
  obtain ⟨z, hd, vs0, r0, dd⟩ := dt_of I2.hok e
  cases r0
  refine ⟨rs, c, dd, fun h' tk dd' hs => ⟨.ref s.heap.objs.size, _, ?_, rfl, q2⟩⟩
  have hz : (mergeT [] (kvs.map fun x => (x.1, x.2.2))).length ≤ sizeLine := by
    have h1 := length_mergeT (kvs.map fun x => (x.1, x.2.2)) []
    rw [List.length_nil, List.length_map] at h1
    rw [sizeLine_eq]; omega
  obtain ⟨ob, es, ep, hq', h2, h3, h4, _, h5⟩ := dd'
  refine d_write I2 (by rw [e]; exact True.intro) hs ⟨ob, hq'⟩ ⟨hz, hd, _, (KT.merge rk .nil).keeps fun c' ys ec => ?_, ob, es, ep, hq', h2, h3, h4, h5⟩
  rw [upd_ne (ne_of ec e (fun z => nomatch z))]
  exact ec
end
section
variable {X : Cx} {c : Cf} {A : List Addr} {σ : Sl} {h h1 h' : Hist} {o : Hist → Int → Int} {G : List D} {φ : Nat → List Og.Arg → Hist → RE}
def trsOf (c : Cf) (o : Hist → Int → Int) (G : List D) (φ : Nat → List Og.Arg → Hist → RE) : E → List (TE × TE)
  | .cons k (.cons v r) => (gEv c (ev o G φ k false), gEv c (ev o G φ v false)) :: trsOf c o G φ r
  | _ => []
theorem pairs_read : ∀ (es : E) {h : Hist} {ps : List (D × D)} {h1 : Hist}, evd o G φ es σ h = .ok ps h1 → ∀ {A : List Addr} {σV : L2.St} {H : Hp} {Q : List (V × V) → Hp → Prop}, SsR c H A σ σV → Wd c H A h →
    (∀ vvs H', Kp c.bx H H' → Wd c H' A h1 → Pv c H' A vvs ps → Q vvs H') → tPairs (trsOf c o G φ es) σV H Q
  | .nil, h, ps, h1, e, A, σV, H, Q, s, w, q => by
    simp only [evd] at e
    cases e
    exact q [] H .refl w .nil
  | .cons k (.cons v r), h, ps, h1, e, A, σV, H, Q, s, w, q => by
    simp only [evd] at e
    split at e
    rotate_left
    · cases e
    rename_i dk ha e1
    split at e
    rotate_left
    · cases e
    rename_i dv hb e2
    split at e
    rotate_left
    · cases e
    rename_i ps' hc e3
    cases e
    obtain ⟨f1, e1, n1, n2⟩ := strong_ok e1
    obtain ⟨f2, e2, n3, n4⟩ := strong_ok e2
    refine ⟨A, σ, h, dk, f1, ha, e1, s, w, fun x H1 k1 w1 r1 => ?_⟩
    refine ⟨A, σ, ha, dv, f2, hb, e2, s.keep w.bin k1, w1, fun y H2 k2 w2 r2 => ?_⟩
    refine pairs_read r e3 (s.keep w.bin (k1.trans k2)) w2 fun vvs H3 k3 w3 pv => ?_
    exact q _ H3 (k1.trans (k2.trans k3)) w3 (.cons ((r1.rv n2 n1).keep w.bin (k2.trans k3)) ((r2.rv n4 n3).keep w.bin k3) pv)
  | .cons k .nil, h, ps, h1, e, A, σV, H, Q, s, w, q => by simp [evd] at e
theorem wd_dict {H : Hp} {p : Addr} {o : HO} (w : Wd c H A h) (hp : H p = none) : Wd c (upd H p o) (p :: A) h := by
  refine ⟨fun a ha => ?_, fun a e => List.mem_cons_of_mem _ (w.bin a e), fun a ha => ?_⟩
  · rcases List.mem_cons.mp ha with z | z
    · subst z; exact ⟨_, upd_same⟩
    · obtain ⟨o, e1⟩ := w.dom a z; exact ⟨o, by rw [upd_ne (ne_of_none e1 hp)]; exact e1⟩
  · have := w.box a ha; rw [upd_ne (ne_of_none this hp)]; exact this
theorem e_disp {es : E} {keys : List (Option Expr)} {values : List Expr} {pos : Pos} {ps kvs : List (D × D)} (hu : X.A.units + 65 < cLine) (hp : PPs X pos keys values (trsOf c o G φ es)) (hall : keys.all (·.isSome) = true) (hl : keys.length = values.length)
    (h15 : keys.length ≤ 15) (hn : keys = [] → es = .nil) (e : evd o G φ es σ h = .ok ps h1) (h15' : ps.length ≤ 15) (hm : mergeD ps [] = some kvs) : PE X (.Dict keys values pos) (tEv c A σ h (.dict kvs) .fr h1) := by
  by_cases h0 : keys = []
  · subst h0
    have := hn rfl
    subst this
    simp only [evd] at e
    cases e
    simp only [mergeD] at hm
    cases hm
    cases values with
    | cons _ _ => cases hl
    | nil => exact pe_dnewK.mono fun σV H Q ⟨s, w, q⟩ p hp => q _ _ (Kp.new hp) (w.new hp) (newK w hp (kvs := []) rfl .nil)
  · by_cases hA : ∀ k v r, ps = (k, v) :: r → keyA k = true
    · refine (pe_disp hp hall hl h0 h15).mono fun σV H Q ⟨s, w, q⟩ p hp => ?_
      have nbx : some p ≠ c.bx := w.nbx hp
      have bD : Bin c.bx (p :: A) := fun a e => List.mem_cons_of_mem _ (w.bin a e)
      refine pairs_read es e ((s.more hp).keep bD (Kp.new hp)) (wd_dict w hp) fun vvs H2 k2 w2 pv => ?_
      obtain ⟨kv, z1, z2, z3⟩ := mergeA pv (acc := []) (kacc := []) rfl .nil (.inr hA) hm
      have hlen : kv.length ≤ 15 := by
        have := pv.length
        rw [z1, List.length_map] at this
        omega
      refine ⟨k2 p _ nbx upd_same, kv, z1, hlen, q _ _ ?_ ?_ ⟨p, rfl, hp, w.fresh hp, .dK upd_same z2 (z3.step (al_write (List.mem_cons_self ..)))⟩⟩
      · exact ((Kp.new hp).trans k2).wr hp
      · exact (w2.write nbx).sub w.bin
    · have hT : ∀ k v r, ps = (k, v) :: r → keyA k = false := fun k v r ee => by
        cases hk : keyA k with
        | false => rfl
        | true =>
          refine absurd (fun k' v' r' ee' => ?_) hA
          rw [ee] at ee'
          cases ee'
          exact hk
      refine (pe_dispT hu hp hall hl h0 h15).mono fun σV H Q ⟨s, w, q⟩ p hp => ?_
      have nbx : some p ≠ c.bx := w.nbx hp
      have bD : Bin c.bx (p :: A) := fun a e => List.mem_cons_of_mem _ (w.bin a e)
      refine pairs_read es e ((s.more hp).keep bD (Kp.new hp)) (wd_dict w hp) fun vvs H2 k2 w2 pv => ?_
      obtain ⟨kv, z1, z0, z2, z3⟩ := mergeTd pv (acc := []) (kacc := []) rfl .nil (.inr hT) hm
      have hlen : kv.length ≤ 15 := by
        have := pv.length
        rw [z1, List.length_map] at this
        omega
      refine ⟨k2 p _ nbx upd_same, kv, z1, z0, hlen, q _ _ ?_ ?_ ⟨p, rfl, hp, w.fresh hp, .dT upd_same z2 (z3.step (al_write (List.mem_cons_self ..)))⟩⟩
      · exact ((Kp.new hp).trans k2).wr hp
      · exact (w2.write nbx).sub w.bin
end
end Og

end
section
set_option Elab.async false
set_option linter.all false
set_option maxRecDepth 100000
/-! The look at the text: own syntax against the program's. -/
namespace Og
open PySem PySem.Spec PyProof.Rows L2
structure Cc where
  N : List Str
  sc : Scope
  fn : Str → Bool
  gl : List Str
  fs : List (Str × List Str)
  kw : List (Nat × List Str × List Nat)
def Cc.blk (Γ : Cc) (scope : Scope) : Cc := { Γ with sc := relS scope Γ.sc, fn := fun x => scope.names.lookup x == some .cell }
def visB (sc : Scope) (x : Str) : Bool := match sc.names.lookup x with
  | some .local => true
  | some .cell => true
  | some .free => true
  | _ => false
def locB (sc : Scope) (x : Str) : Bool := match sc.names.lookup x with
  | some .local => true
  | some .cell => true
  | _ => false
def lclB (sc : Scope) (x : Str) : Bool := match sc.names.lookup x with
  | some .local => true
  | _ => false
def glB (sc : Scope) (x : Str) : Bool := match sc.names.lookup x with
  | some .globalImplicit => true
  | _ => false
theorem visB_ok {sc : Scope} {x : Str} (h : visB sc x = true) : Vis sc x := by
  unfold visB at h; unfold Vis; split at h <;> simp_all
theorem locB_ok {sc : Scope} {x : Str} (h : locB sc x = true) : L2.Loc sc x := by
  unfold locB at h; unfold L2.Loc; split at h <;> simp_all
theorem lclB_ok {sc : Scope} {x : Str} (h : lclB sc x = true) : sc.names.lookup x = some .local := by
  unfold lclB at h; split at h <;> simp_all
theorem glB_ok {sc : Scope} {x : Str} (h : glB sc x = true) : sc.names.lookup x = some .globalImplicit := by
  unfold glB at h; split at h <;> simp_all
def eqO (a : Option Str) (x : Str) : Bool := match a with
  | some y => eqS y x
  | none => false
theorem eqN_iff : ∀ {a b : List Nat}, eqN a b = true → a = b
  | [], [], _ => rfl
  | a :: r, b :: t, h => by
    simp only [eqN, Bool.and_eq_true] at h
    have h1 : a = b := by simpa using h.1
    rw [h1, eqN_iff h.2]
  | [], _ :: _, h => by simp [eqN] at h
  | _ :: _, [], h => by simp [eqN] at h
theorem eqS_iff {a b : Str} (h : eqS a b = true) : a = b := by
  have := eqN_iff h
  cases a; cases b
  simp only [cps] at this
  simp only [Str.mk.injEq]
  exact Array.ext' this
theorem eqO_iff {a : Option Str} {x : Str} (h : eqO a x = true) : a = some x := by
  cases a with
  | none => cases h
  | some y => rw [eqS_iff h]
def dbgB (x : Str) : Bool := !(x == ("__debug__" : Str)) && !(x == ("__classdict__" : Str))
theorem dbg1 {x : Str} (h : dbgB x = true) : (x == ("__debug__" : Str)) = false := by
  unfold dbgB at h; simp only [Bool.and_eq_true, Bool.not_eq_true'] at h; exact h.1
theorem dbg2 {x : Str} (h : dbgB x = true) : (x == ("__classdict__" : Str)) = false := by
  unfold dbgB at h; simp only [Bool.and_eq_true, Bool.not_eq_true'] at h; exact h.2
/-- a name -/
def neS (x : Str) : Bool := Nat.blt 0 x.cps.size
/-! ### shapes -/
def noStar : Expr → Bool
  | .Starred _ _ => false
  | _ => true
theorem star_ok {e : Expr} {es : List Expr} {env : Env} (h : noStar e = true) : starEach (e :: es) env = (false, eval e env) :: starEach es env := by
  cases e <;> first | rfl | cases h
theorem stars_ok {env : Env} {pos : Pos} : ∀ {es : List Expr}, es.all noStar = true → (backTo pos (starEach es env)).any (·.1) = false
  | [], _ => rfl
  | e :: es, h => by
    simp only [List.all_cons, Bool.and_eq_true] at h
    rw [star_ok h.1]
    show (false || (backTo pos (starEach es env)).any (·.1)) = false
    rw [stars_ok h.2]; rfl
def noSet : Expr → Bool
  | .Set _ _ _ => false
  | _ => true
theorem set_ok {e : Expr} {env : Env} (h : noSet e = true) (x : Value) : foldedSetIterable e env x = pure x := by
  cases e <;> first | rfl | cases h
theorem mark_ok {e : Expr} {op : CmpOp} (h : noSet e = true) : behindInMarks op e = false := by
  cases e <;> first | rfl | cases h
def noSlice : Expr → Bool
  | .Slice _ _ _ _ => false
  | _ => true
theorem ix_ok {e : Expr} (h : noSlice e = true) : PlainIx e := by
  intro o i
  cases e <;> first | rfl | cases h
def asCall : Expr → Option (Str × Pos × List Expr × Pos)
  | .Call (.Name x p) xs [] q => some (x, p, xs, q)
  | _ => none
theorem asCall_ok {e : Expr} {x p xs q} (h : asCall e = some (x, p, xs, q)) : e = .Call (.Name x p) xs [] q := by
  unfold asCall at h; split at h
  · cases h; rfl
  · cases h
def kwNames : List Keyword → Option (List Str × List Expr)
  | [] => some ([], [])
  | ⟨some n, e, _⟩ :: r => (match kwNames r with
    | some (ns, es) => some (n :: ns, e :: es)
    | none => none)
  | _ => none
def asCallK : Expr → Option (Str × Pos × List Keyword × Pos)
  | .Call (.Name x p) [] kws q => some (x, p, kws, q)
  | _ => none
theorem asCallK_ok {e : Expr} {x p kws q} (h : asCallK e = some (x, p, kws, q)) : e = .Call (.Name x p) [] kws q := by
  unfold asCallK at h; split at h
  · cases h; rfl
  · cases h
def asMeth : Expr → Option (Expr × Str × Pos × List Expr × Pos)
  | .Call (.Attribute o m p) xs [] q => some (o, m, p, xs, q)
  | _ => none
theorem asMeth_ok {e : Expr} {o m p xs q} (h : asMeth e = some (o, m, p, xs, q)) : e = .Call (.Attribute o m p) xs [] q := by
  unfold asMeth at h; split at h
  · cases h; rfl
  · cases h
def asComp : Expr → Option (Expr × Expr × Expr × List Expr × Scope × Pos)
  | .ListComp elt [⟨tg, iter, ifs, 0⟩] scope pos => some (elt, tg, iter, ifs, scope, pos)
  | _ => none
theorem asComp_ok {e : Expr} {elt tg iter ifs scope pos} (h : asComp e = some (elt, tg, iter, ifs, scope, pos)) : e = .ListComp elt [⟨tg, iter, ifs, 0⟩] scope pos := by
  unfold asComp at h; split at h
  · cases h; rfl
  · cases h
def asDcomp : Expr → Option (Expr × Expr × Expr × Expr × Scope × Pos)
  | .DictComp k v [⟨tg, iter, [], 0⟩] scope pos => some (k, v, tg, iter, scope, pos)
  | _ => none
theorem asDcomp_ok {e : Expr} {k v tg iter scope pos} (h : asDcomp e = some (k, v, tg, iter, scope, pos)) : e = .DictComp k v [⟨tg, iter, [], 0⟩] scope pos := by
  unfold asDcomp at h; split at h
  · cases h; rfl
  · cases h
def isTupE : Expr → Bool
  | .Tuple _ _ _ => true
  | _ => false
/-- the parts of what is walked -/
def itArgs (Γ : Cc) (k : Kd) (tg iter : Expr) : Option (List Expr) := match k with
  | .seq => some [iter]
  | .rng1 => (match asCall iter with
    | some (x, _, [a], _) => if eqS x "range" && glB Γ.sc "range" then some [a] else none
    | _ => none)
  | .rng2 => (match asCall iter with
    | some (x, _, [a, b], _) => if eqS x "range" && glB Γ.sc "range" then some [a, b] else none
    | _ => none)
  | .rng3 => (match asCall iter with
    | some (x, _, [a, b, c], _) => if eqS x "range" && glB Γ.sc "range" then some [a, b, c] else none
    | _ => none)
  | .enum => (match asCall iter with
    | some (x, _, [a], _) => if eqS x "enumerate" && glB Γ.sc "enumerate" && isTupE tg then some [a] else none
    | _ => none)
  | .zip => (match asCall iter with
    | some (x, _, [a, b], _) => if eqS x "zip" && glB Γ.sc "zip" && isTupE tg then some [a, b] else none
    | _ => none)
  | _ => none
/-- built-ins called by name, plainly -/
def bltFn : Blt → Option (Str × Value)
  | .len => some ("len", .builtin "len")
  | .tuple => some ("tuple", .type "tuple")
  | .list => some ("list", .type "list")
  | .sorted => some ("sorted", .builtin "sorted")
  | .sum => some ("sum", .builtin "sum")
  | .all => some ("all", .builtin "all")
  | .any => some ("any", .builtin "any")
  | .abs => some ("abs", .builtin "abs")
  | .max2 => some ("max", .builtin "max")
  | .min2 => some ("min", .builtin "min")
  | .int1 => some ("int", .type "int")
  | .dict1 => some ("dict", .type "dict")
  | _ => none
def bltNames : List Str := ["len", "tuple", "list", "sorted", "sum", "all", "any", "abs", "max", "min", "int", "isinstance", "range", "enumerate", "zip", "bool", "str", "dict", "set"]
def bltIs : Blt → Option (List Str)
  | .isInt => some ["int"]
  | .isBool => some ["bool"]
  | .isStr => some ["str"]
  | .isTuple => some ["tuple"]
  | .isList => some ["list"]
  | .isSeq => some ["list", "tuple"]
  | .isSeq2 => some ["tuple", "list"]
  | .isBoolStr => some ["bool", "str"]
  | _ => none
def nameIs (Γ : Cc) (e : Expr) (n : Str) : Bool := match e with
  | .Name x _ => eqS x n && glB Γ.sc n
  | _ => false
def namesAre (Γ : Cc) : List Expr → List Str → Bool
  | [], [] => true
  | e :: es, n :: ns => nameIs Γ e n && namesAre Γ es ns
  | _, _ => false
/-- the argument of isinstance -/
def isArg (Γ : Cc) (ns : List Str) (xs : List Expr) : Option (List Expr) := match xs with
  | [e, t] => (match ns with
    | [n] => if nameIs Γ t n then some [e] else none
    | _ => (match t with
      | .Tuple ts _ _ => if namesAre Γ ts ns then some [e] else none
      | _ => none))
  | _ => none
def rgArg (Γ : Cc) (xs : List Expr) : Option (List Expr) := match xs with
  | [e] => (match asCall e with
    | some (x, _, [a], _) => if eqS x "range" && glB Γ.sc "range" then some [a] else none
    | _ => none)
  | _ => none
/-- shapes of their own -/
def spSet (Γ : Cc) (n : Str) (ex : Expr) : Option (List Expr) := match asCall ex with
  | some (x, _, [e], _) => (match asCall e with
    | some (y, _, [a], _) => if (eqS x n && glB Γ.sc n) && (eqS y "set" && glB Γ.sc "set") then some [a] else none
    | _ => none)
  | _ => none
def spArg (Γ : Cc) (b : Blt) (ex : Expr) : Option (List Expr) := match b with
  | .lenset => spSet Γ "len" ex
  | .sortedset => spSet Γ "sorted" ex
  | _ => none
def isSp : Blt → Bool
  | .lenset => true
  | .sortedset => true
  | _ => false
def blkB (Γ : Cc) (scope : Scope) (own : List Nat) : Bool :=
  (match scope.kind with | .function => true | _ => false) &&
  scope.names.all (fun y => scope.names.lookup y.1 == some y.2) &&
  own.all (fun i => (Γ.N[i]?).isSome) &&
  scope.names.all (fun y => match y.2 with
    | .free => (match Γ.sc.names.lookup y.1 with
      | some .cell => true
      | some .free => true
      | _ => false)
    | .local => own.any (fun i => eqO Γ.N[i]? y.1) || !(Γ.N.contains y.1)
    | .cell => own.any (fun i => eqO Γ.N[i]? y.1) || !(Γ.N.contains y.1)
    | _ => true)
def ownOf (Γ : Cc) (own : List Nat) : List (Str × Nat) := own.map fun i => ((Γ.N[i]?).getD "", i)
theorem ownOf_snd {Γ : Cc} {own : List Nat} : (ownOf Γ own).map (·.2) = own := by
  unfold ownOf; rw [List.map_map]; exact List.map_id' own
theorem blk_ok {Γ : Cc} {scope : Scope} {own : List Nat} (h : blkB Γ scope own = true) : BlkOk Γ.N Γ.sc scope (ownOf Γ own) := by
  unfold blkB at h
  simp only [Bool.and_eq_true, List.all_eq_true] at h
  obtain ⟨⟨⟨h1, h2⟩, h3⟩, h4⟩ := h
  have hkk : scope.kind = .function := by
    cases hk : scope.kind <;> rw [hk] at h1 <;> first
      | rfl
      | (cases h1; done)
  refine ⟨hkk, fun y hy => by simpa using h2 y hy, fun p hp => ?_, fun y hy e => ?_, fun y hy e => ?_⟩
  · obtain ⟨i, hi, rfl⟩ := List.mem_map.mp hp
    have := h3 i hi
    obtain ⟨x, hx⟩ := Option.isSome_iff_exists.mp this
    show Γ.N[i]? = some ((Γ.N[i]?).getD "")
    rw [hx]; rfl
  · have := h4 y hy
    rw [e] at this
    simp only at this
    split at this <;> simp_all
  · have := h4 y hy
    have key : (own.any (fun i => eqO Γ.N[i]? y.1) || !(Γ.N.contains y.1)) = true := by
      rcases e with e | e <;> rw [e] at this <;> exact this
    rw [Bool.or_eq_true] at key
    rcases key with k | k
    · obtain ⟨i, hi, ei⟩ := List.any_eq_true.mp k
      refine .inl (List.mem_map.mpr ⟨((Γ.N[i]?).getD "", i), List.mem_map.mpr ⟨i, hi, rfl⟩, ?_⟩)
      rw [eqO_iff ei]; rfl
    · refine .inr fun hm => ?_
      simp only [Bool.not_eq_true', List.contains_eq_mem, decide_eq_false_iff_not] at k
      exact k hm
mutual
def ckT (Γ : Cc) : Tg → Expr → Bool
  | .nm i, ex => (match ex with
    | .Name x _ => eqO Γ.N[i]? x && (locB Γ.sc x && (Γ.fn x || lclB Γ.sc x))
    | _ => false)
  | .nil, _ => false
  | .cons a b, ex => (match ex with
    | .Tuple (x :: r) _ _ => noStar x && (r.all noStar && (ckT Γ a x && ckTs Γ b r))
    | _ => false)
def ckTs (Γ : Cc) : Tg → List Expr → Bool
  | .nil, xs => xs.isEmpty
  | .cons a b, xs => (match xs with
    | x :: r => ckT Γ a x && ckTs Γ b r
    | [] => false)
  | .nm _, _ => false
end
def optL : Option Expr → List Expr
  | none => []
  | some e => [e]
def baseB : Expr → Bool
  | .Name _ _ => true
  | .Call _ (_ :: _) _ _ => true
  | _ => false
theorem base_ok {e : Expr} {m : Str} {env : Env} (h : baseB e = true) : attributeBase e m env (eval e env) = eval e env := by
  unfold baseB at h
  split at h
  · rfl
  · rename_i f a r kws p
    cases f <;> rfl
  · cases h
def endsMeth (p q : Pos) : Bool := p.endLine == q.line
def isListR : Blt → Bool
  | .listR => true
  | _ => false
mutual
def ck : E → Cc → Expr → Bool
  | .nil, _, _ => false
  | .cons _ _, _, _ => false
  | .bad, _, _ => true
  | .var i, Γ, ex => (match ex with
    | .Name x _ => eqO Γ.N[i]? x && (visB Γ.sc x && dbgB x)
    | _ => false)
  | .int i, _, ex => (match ex with
    | .Constant (.int j) _ _ => eqI i j
    | _ => false)
  | .str s, _, ex => (match ex with
    | .Constant (.str t) _ _ => eqS s t
    | _ => false)
  | .bl b, _, ex => (match ex with
    | .Constant (.bool d) _ _ => b == d
    | _ => false)
  | .non, _, ex => (match ex with
    | .Constant .none _ _ => true
    | _ => false)
  | .glo k, Γ, ex => (match ex with
    | .Name x _ => (neS x && eqO Γ.gl[k]? x) && (glB Γ.sc x && dbgB x)
    | _ => false)
  | .tup es, Γ, ex => (match ex with
    | .Tuple xs _ _ => Nat.blt xs.length 1000 && ckL es Γ xs
    | _ => false)
  | .lst es, Γ, ex => (match ex with
    | .List xs _ => Nat.blt xs.length 1000 && ckL es Γ xs
    | _ => false)
  | .dic es _, Γ, ex => (match ex with
    | .Dict ks vs _ => Nat.ble ks.length 15 && ckD es Γ ks vs
    | _ => false)
  | .bin op a b, Γ, ex => (match ex with
    | .BinOp x o y _ => decide (o = bopP op) && (ck a Γ x && ck b Γ y)
    | _ => false)
  | .neg a, Γ, ex => (match ex with
    | .UnaryOp .USub x _ => ck a Γ x
    | _ => false)
  | .not a, Γ, ex => (match ex with
    | .UnaryOp .Not x _ => ck a Γ x
    | _ => false)
  | .and a b, Γ, ex => (match ex with
    | .BoolOp .And (x :: y :: r) p => ck a Γ x && ck b Γ (nrm .And p (y :: r))
    | _ => false)
  | .or a b, Γ, ex => (match ex with
    | .BoolOp .Or (x :: y :: r) p => ck a Γ x && ck b Γ (nrm .Or p (y :: r))
    | _ => false)
  | .ite t a b, Γ, ex => (match ex with
    | .IfExp x y z _ => ck t Γ x && (ck a Γ y && ck b Γ z)
    | _ => false)
  | .cmp op a b, Γ, ex => (match ex with
    | .Compare x [o] [y] _ => decide (o = copP op) && (noSet y && (ck a Γ x && ck b Γ y))
    | _ => false)
  | .chn o1 o2 a b d, Γ, ex => (match ex with
    | .Compare x [p1, p2] [y, z] _ => decide (p1 = copP o1) && (decide (p2 = copP o2) && (noSet z && (ck a Γ x && (ck b Γ y && ck d Γ z))))
    | _ => false)
  | .call f es, Γ, ex => (match asCall ex with
    | some (x, _, xs, _) => (match Γ.fs[f]? with
      | some (n, ps) => (neS n && eqS n x) && (glB Γ.sc x && (dbgB x && (Nat.beq xs.length ps.length && ckL es Γ xs)))
      | none => false)
    | none => false)
  | .callk f pm es, Γ, ex => (match asCallK ex with
    | some (x, _, kws, _) => (match Γ.fs[f]?, kwNames kws with
      | some (n, ps), some (ks, xs) => (neS n && eqS n x) && (glB Γ.sc x && ((dbgB x && Nat.beq pm.length ps.length) && (Γ.kw.any (fun t => Nat.beq t.1 f && (decide (t.2.1 = ks) && decide (t.2.2 = pm))) && ckL es Γ xs)))
      | _, _ => false)
    | none => false)
  | .take b n, Γ, ex => (match asCall ex with
    | some (x, _, [e1, e2], _) => eqS x "_law_take" && (glB Γ.sc x && (noStar e1 && (noStar e2 && (ck b Γ e1 && ck n Γ e2))))
    | _ => false)
  | .blt b es, Γ, ex => (match isSp b with
   | true => (match spArg Γ b ex with
    | some ys => ckL es Γ ys
    | none => false)
   | false => match asCall ex with
    | some (x, _, xs, _) => (match bltFn b with
      | some (n, _) => eqS x n && (glB Γ.sc x && ckL es Γ xs)
      | none => (match bltIs b with
        | some ns => eqS x "isinstance" && (glB Γ.sc x && (match isArg Γ ns xs with
          | some ys => ckL es Γ ys
          | none => false))
        | none => isListR b && (eqS x "list" && (glB Γ.sc x && (match rgArg Γ xs with
          | some ys => ckL es Γ ys
          | none => false)))))
    | none => false)
  | .met m o es, Γ, ex => (match asMeth ex with
    | some (oe, n, p, [e1, e2], q) => (match m with
      | .get2 => eqS n "get" && (baseB oe && (endsMeth p q && (ck o Γ oe && ckL es Γ [e1, e2])))
      | _ => false)
    | _ => false)
  | .sub a i, Γ, ex => (match ex with
    | .Subscript x y _ => noSlice y && (ck a Γ x && ck i Γ y)
    | _ => false)
  | .slc a lo hi, Γ, ex => (match ex with
    | .Subscript x (.Slice l u none _) _ => ck a Γ x && (ckL lo Γ (optL l) && ckL hi Γ (optL u))
    | _ => false)
  | .comp elt own tg k its ifs, Γ, ex => (match asComp ex with
    | some (elt', tg', iter, ifs', scope, _) => (match itArgs Γ k tg' iter with
      | some xs => noSet iter && (blkB Γ scope own && ((slotsT tg).all (fun j => own.contains j) && (ckL its Γ xs && (ckT (Γ.blk scope) tg tg' && (ck elt (Γ.blk scope) elt' && (Nat.ble ifs'.length 1 && ckL ifs (Γ.blk scope) ifs'))))))
      | none => false)
    | none => false)
  | .dcomp key val own tg k its, Γ, ex => (match asDcomp ex with
    | some (key', val', tg', iter, scope, _) => (match itArgs Γ k tg' iter with
      | some xs => noSet iter && (blkB Γ scope own && ((slotsT tg).all (fun j => own.contains j) && (ckL its Γ xs && (ckT (Γ.blk scope) tg tg' && (ck key (Γ.blk scope) key' && ck val (Γ.blk scope) val')))))
      | none => false)
    | none => false)
def ckD : E → Cc → List (Option Expr) → List Expr → Bool
  | .nil, _, ks, vs => ks.isEmpty && vs.isEmpty
  | .cons k (.cons v r), Γ, ks, vs => (match ks, vs with
    | some x :: ks', y :: vs' => ck k Γ x && (ck v Γ y && ckD r Γ ks' vs')
    | _, _ => false)
  | _, _, _, _ => false
def ckL : E → Cc → List Expr → Bool
  | .nil, _, xs => xs.isEmpty
  | .cons a b, Γ, xs => (match xs with
    | x :: r => noStar x && (ck a Γ x && ckL b Γ r)
    | [] => false)
  | _, _, _ => false
end
end Og

end
section
set_option Elab.async false
set_option linter.all false
set_option maxRecDepth 100000
/-! Expressions: the interpreter is right. -/
namespace L2
open PySem
theorem PG.mono {X : Cx} {e : Expr} {t t' : TG} (h : PG X e t) (i : ∀ v σ H R, t' v σ H R → t v σ H R) : PG X e t' := ⟨fun pins s σ H v u Q I r q => h.run pins s σ H v u Q I r (i _ _ _ _ q)⟩
theorem PGs.mono {X : Cx} {e : List Expr} {t t' : TGs} (h : PGs X e t) (i : ∀ v σ H R, t' v σ H R → t v σ H R) : PGs X e t' := ⟨fun pins s σ H v u Q I r q => h.run pins s σ H v u Q I r (i _ _ _ _ q)⟩
end L2
namespace Og
open PySem PySem.Spec PyProof.Rows L2
def permL {α : Type} (l : List α) (pm : List Nat) : List α := pm.filterMap fun i => l[i]?
def permG {α : Type} (pm : List Nat) (us ws : List α) : List α := match us with
  | [] => permL ws pm
  | _ => []
/-- a constant of the module as a value -/
def GlR (c : Cf) (v : V) (d : D) : Prop := match flG d with
  | .ct => ∃ a, v = .ref a ∧ Gw c a d
  | _ => ∀ H A, Rv c H A v d
structure EnvOk (c : Cf) (o : Hist → Int → Int) (G : List D) (φ : Nat → List Og.Arg → Hist → RE) (k : Nat) (Γ : Cc) (X : Cx) : Prop where
  K : X.K = c.K
  w : X.w = c.w
  calm : X.calm = true
  nd : Γ.N.Nodup
  N : X.N = Γ.N
  sc : X.env.scope = Γ.sc
  fn : X.fn = Γ.fn
  room : Room k X.A
  room2 : X.A.units + 65 < cLine
  blt : ∀ x ∈ bltNames, X.mg x = none
  glo : ∀ i x d, Γ.gl[i]? = some x → nth G i = some d → neS x = true → ∃ u v, X.mg x = some u ∧ RelV v u ∧ GlR c v d
  fns : ∀ f x ps, Γ.fs[f]? = some (x, ps) → neS x = true → ∃ fa fd, FnOk X.prog X.w X.K X.mg X.base L2.CX0 k fa fd ps (spF c φ f ps.length) ∧ X.mg x = some (.ref fa) ∧ PySem.W.keepIn X.K (.ref fa) = true ∧ Binds X.K fd ps [] ∧
    ∀ ks pm, (f, ks, pm) ∈ Γ.kw → KBinds X.K fd ps ks (permG pm) (permG pm)
  take : ∃ fa fd ps, FnOk X.prog X.w X.K X.mg X.base L2.CX0 k fa fd ps (spTake c o) ∧ X.mg "_law_take" = some (.ref fa) ∧ PySem.W.keepIn X.K (.ref fa) = true ∧ Binds X.K fd ps []
theorem EnvOk.blk {c : Cf} {o : Hist → Int → Int} {G : List D} {φ : Nat → List Og.Arg → Hist → RE} {k : Nat} {Γ : Cc} {X : Cx} (E : EnvOk c o G φ k Γ X) (s : Shared) (H : Hp) (scope : Scope) (C : Addr) (cl : List (Str × Addr)) (fp : List Addr) :
    EnvOk c o G φ k (Γ.blk scope) (X.blk s H scope (compEnvC scope cl C X.env) fp) where
  K := E.K
  w := E.w
  calm := E.calm
  nd := E.nd
  N := E.N
  sc := by
    show relS scope X.env.scope = relS scope Γ.sc
    rw [E.sc]
  fn := rfl
  room := E.room
  room2 := E.room2
  blt := E.blt
  glo := E.glo
  fns := E.fns
  take := E.take
section
variable {c : Cf} {o : Hist → Int → Int} {G : List D} {φ : Nat → List Og.Arg → Hist → RE} {k : Nat}
def Res (c : Cf) (X : Cx) (A : List Addr) (σ : Sl) (h : Hist) (ex : Expr) (m : Bool) (x : D) (f : Fl) (h' : Hist) : Prop :=
  (m = false → PE X ex (tEv c A σ h x f h')) ∧ (m = true → ∃ b, x = .bool b ∧ PT X ex (tTs c A σ h b h'))
theorem res_fin {X : Cx} {A : List Addr} {σ : Sl} {h h' : Hist} {ex : Expr} {m : Bool} {r : RE} {x : D} {f : Fl} (hK : X.K = c.K) (he : ∀ x f h', r = .ok x f h' → PE X ex (tEv c A σ h x f h'))
    (hi : ∀ whole, isTrue ex X.env whole = (do let v ← whole; standAt ex.pos; holding [v] (truthy v))) (e : fin m r = .ok x f h') : Res c X A σ h ex m x f h' := by
  cases m with
  | false => exact ⟨fun _ => he _ _ _ e, fun z => nomatch z⟩
  | true =>
    refine ⟨fun z => (nomatch z), fun _ => ?_⟩
    simp only [fin] at e
    split at e
    · rename_i x0 f0 h0
      split at e
      · rename_i b eb
        obtain ⟨rfl, rfl, rfl⟩ := kB e
        exact ⟨b, rfl, t_truth hK (he _ _ _ rfl) eb hi⟩
      · cases e
    · cases e
/-! ### targets -/
theorem pgs_len {env : Env} : ∀ {es : List Expr}, (assignEach es env).length = es.length
  | [] => rfl
  | e :: es => by cases e <;> simp [assignEach, pgs_len (es := es)]
theorem pgs_star {env : Env} : ∀ {es : List Expr}, es.all noStar = true → (assignEach es env).findIdx? (·.1) = none
  | [], _ => rfl
  | e :: es, h => by
    simp only [List.all_cons, Bool.and_eq_true] at h
    have : assignEach (e :: es) env = (false, assign e env) :: assignEach es env := by cases e <;> first | rfl | cases h.1
    rw [this, List.findIdx?_cons]
    simp [pgs_star h.2]
theorem asg_one {e : Expr} {es : List Expr} {env : Env} (h : noStar e = true) : (assignEach (e :: es) env).map (·.2) = assign e env :: (assignEach es env).map (·.2) := by
  cases e <;> first | rfl | cases h
def gTgs (c : Cf) (tg : Tg) : TGs := fun vs σV H Q => ∃ A σ ys σ', asgT tg (.tuple ys) σ = some σ' ∧ RvL c H A vs ys ∧ SsR c H A σ σV ∧
  ∀ σV', SsR c H A σ' σV' → σV'.length = σV.length → (∀ j, j ∉ slotsT tg → σV'[j]? = σV[j]?) → Q σV' H
mutual
theorem tg_ok {Γ : Cc} {X : Cx} (hK : X.K = c.K) (hc : X.calm = true) (nd : Γ.N.Nodup) (hN : X.N = Γ.N) (hsc : X.env.scope = Γ.sc) (hfn : X.fn = Γ.fn) : ∀ (tg : Tg) (ex : Expr), ckT Γ tg ex = true → PG X ex (gTg c tg)
  | .nm i, ex, h => by
    simp only [ckT] at h
    split at h
    · rename_i x p
      simp only [Bool.and_eq_true] at h
      obtain ⟨h1, h2, h3⟩ := h
      refine (pg_name (i := i) (by rw [hN]; exact nd) (by rw [hN]; exact eqO_iff h1) (by rw [hsc]; exact locB_ok h2) (by
        rw [Bool.or_eq_true] at h3
        rcases h3 with h3 | h3
        · exact .inl (by rw [hfn]; exact h3)
        · exact .inr (by rw [hsc]; exact lclB_ok h3))).mono fun v σV H Q ⟨A, σ, y, σ', e, r, s, q⟩ => ?_
      simp only [asgT] at e
      cases e
      exact q _ (s.setD r) (by simp) fun j hj => List.getElem?_set_ne (by simp [slotsT] at hj; exact fun z => hj z.symm)
    · cases h
  | .nil, ex, h => by simp [ckT] at h
  | .cons a b, ex, h => by
    simp only [ckT] at h
    split at h
    · rename_i x r kk p
      simp only [Bool.and_eq_true] at h
      obtain ⟨h1, h2, h3, h4⟩ := h
      have pa := tg_ok hK hc nd hN hsc hfn a x h3
      have pb := tgs_ok hK hc nd hN hsc hfn b r h4
      have hst : (assignEach (x :: r) X.env).findIdx? (·.1) = none := pgs_star (by simp only [List.all_cons, Bool.and_eq_true]; exact ⟨h1, h2⟩)
      refine ⟨fun pins s0 σV H v u Q I rel ⟨A, σ, y, σ', e, rv, s, q⟩ => ?_⟩
      have fin : ∀ {y0 : D} {ys : List D} {σ1 : Sl} {v0 : V} {vs : List V}, asgT a y0 σ = some σ1 → asgT b (.tuple ys) σ1 = some σ' → Rv c H A v0 y0 → RvL c H A vs ys → (v0 :: vs).length = (x :: r).length ∧ ∃ z zs, (v0 :: vs) = z :: zs ∧ gTg c a z σV H fun σV1 H1 => gTgs c b zs σV1 H1 fun σV2 H2 => Q σV2 H2 := fun {y0 ys σ1 v0 vs} e1 e r1 r2 => by
        refine ⟨?_, v0, vs, rfl, A, σ, y0, σ1, e1, r1, s, fun σV1 s1 l1 o1 => ⟨A, σ1, ys, σ', e, r2, s1, fun σV2 s2 l2 o2 => q _ s2 (l2.trans l1) fun j hj => ?_⟩⟩
        · have := tgs_len h4 e
          simp only [List.length_cons, r2.length]
          omega
        · simp only [slotsT, List.mem_append, not_or] at hj
          rw [o2 j hj.2, o1 j hj.1]
      simp only [asgT] at e
      split at e
      · rename_i y0 ys
        split at e
        rotate_left
        · cases e
        rename_i σ1 e1
        cases rv with
        | tup ht hr =>
          cases hr with
          | cons r1 r2 =>
            obtain ⟨f1, f2⟩ := fin e1 e r1 r2
            exact (pg_tup (n := (x :: r).length) hc (pgs_cons pa pb (asg_one h1)) pgs_len hst).run pins s0 σV H _ u Q I rel ⟨_, _, rfl, by rw [hK]; exact ht.sq, f1, f2⟩
      · rename_i y0 ys
        split at e
        rotate_left
        · cases e
        rename_i σ1 e1
        cases rv with
        | lst ht hn hr =>
          cases hr with
          | cons r1 r2 =>
            obtain ⟨f1, f2⟩ := fin e1 e r1 r2
            exact (pg_unl (n := (x :: r).length) hc (pgs_cons pa pb (asg_one h1)) pgs_len hst).run pins s0 σV H _ u Q I rel ⟨_, _, rfl, SqL.of ht, f1, f2⟩
      · cases e
    · cases h
theorem tgs_ok {Γ : Cc} {X : Cx} (hK : X.K = c.K) (hc : X.calm = true) (nd : Γ.N.Nodup) (hN : X.N = Γ.N) (hsc : X.env.scope = Γ.sc) (hfn : X.fn = Γ.fn) : ∀ (tg : Tg) (exs : List Expr), ckTs Γ tg exs = true → PGs X exs (gTgs c tg)
  | .nil, exs, h => by
    simp only [ckTs] at h
    cases exs with
    | cons _ _ => cases h
    | nil =>
      refine PGs.mono pgs_nil fun vs σV H Q ⟨A, σ, ys, σ', e, r, s, q⟩ => ?_
      simp only [asgT] at e
      split at e
      · rename_i ez
        cases ez
        cases e
        cases r
        exact ⟨rfl, q _ s rfl fun _ _ => rfl⟩
      · cases e
  | .cons a b, exs, h => by
    simp only [ckTs] at h
    cases exs with
    | nil => cases h
    | cons x r =>
      simp only [Bool.and_eq_true] at h
      have pa := tg_ok hK hc nd hN hsc hfn a x h.1
      have pb := tgs_ok hK hc nd hN hsc hfn b r h.2
      have ns : noStar x = true := ckT_star h.1
      refine PGs.mono (pgs_cons pa pb (asg_one ns)) fun vs σV H Q ⟨A, σ, ys, σ', e, rr, s, q⟩ => ?_
      cases ys with
      | nil => simp [asgT] at e
      | cons y0 ys' =>
      simp only [asgT] at e
      split at e
      rotate_left
      · cases e
      rename_i σ1 e1
      cases rr with
      | cons r1 r2 =>
        refine ⟨_, _, rfl, A, σ, y0, σ1, e1, r1, s, fun σV1 s1 l1 o1 => ⟨A, σ1, _, σ', e, r2, s1, fun σV2 s2 l2 o2 => q _ s2 (l2.trans l1) fun j hj => ?_⟩⟩
        simp only [slotsT, List.mem_append, not_or] at hj
        rw [o2 j hj.2, o1 j hj.1]
  | .nm _, exs, h => by simp [ckTs] at h
theorem tgs_len {Γ : Cc} : ∀ {tg : Tg} {exs : List Expr} {ys : List D} {σ σ' : Sl}, ckTs Γ tg exs = true → asgT tg (.tuple ys) σ = some σ' → exs.length = ys.length
  | .nil, exs, ys, σ, σ', h, e => by
    simp only [ckTs] at h
    cases exs with
    | cons _ _ => cases h
    | nil =>
      simp only [asgT] at e
      split at e
      · rename_i ez; cases ez; rfl
      · cases e
  | .cons a b, exs, ys, σ, σ', h, e => by
    simp only [ckTs] at h
    cases exs with
    | nil => cases h
    | cons x r =>
      simp only [Bool.and_eq_true] at h
      cases ys with
      | nil => simp [asgT] at e
      | cons y0 ys' =>
      simp only [asgT] at e
      split at e
      · simp [tgs_len h.2 e]
      · cases e
  | .nm _, exs, ys, σ, σ', h, e => by simp [ckTs] at h
theorem ckT_star {Γ : Cc} : ∀ {tg : Tg} {x : Expr}, ckT Γ tg x = true → noStar x = true
  | .nm i, x, h => by simp only [ckT] at h; split at h; rfl; cases h
  | .nil, x, h => by simp [ckT] at h
  | .cons a b, x, h => by simp only [ckT] at h; split at h; rfl; cases h
end
end
end Og

end
section
set_option Elab.async false
set_option linter.all false
set_option maxRecDepth 100000
/-! isinstance -/
namespace Og
open PySem PySem.Spec PyProof.Rows L2
def isT (n : String) (d : D) : Bool := match n with
  | "int" => isIntD d
  | "bool" => isBoolD d
  | "str" => isStrD d
  | "tuple" => isTupD d
  | "list" => isLstD d
  | _ => false
def tyNames : List String := ["int", "bool", "str", "tuple", "list"]
theorem kit_is {K : PySem.W.Frag} {n t : String} {d : D} (hn : n ∈ tyNames) (h : (t = "NoneType" ∧ d = .none) ∨ (t = "bool" ∧ ∃ b, d = .bool b) ∨ (t = "int" ∧ ∃ b, d = .int b) ∨ (t = "str" ∧ ∃ b, d = .str b) ∨ (t = "list" ∧ ∃ b, d = .list b) ∨ (t = "tuple" ∧ ∃ b, d = .tuple b)) :
    PySem.W.kitOne K (.type t) (.type n) = some (isT n d) := by
  have hn : n = "int" ∨ n = "bool" ∨ n = "str" ∨ n = "tuple" ∨ n = "list" := by simpa [tyNames] using hn
  rcases h with ⟨rfl, rfl⟩ | ⟨rfl, b, rfl⟩ | ⟨rfl, b, rfl⟩ | ⟨rfl, b, rfl⟩ | ⟨rfl, b, rfl⟩ | ⟨rfl, b, rfl⟩ <;> rcases hn with rfl | rfl | rfl | rfl | rfl <;> refine kit_ty ?_
  · exact (by decide +kernel : kitB "NoneType" "int" = some false)
  · exact (by decide +kernel : kitB "NoneType" "bool" = some false)
  · exact (by decide +kernel : kitB "NoneType" "str" = some false)
  · exact (by decide +kernel : kitB "NoneType" "tuple" = some false)
  · exact (by decide +kernel : kitB "NoneType" "list" = some false)
  · exact (by decide +kernel : kitB "bool" "int" = some true)
  · exact (by decide +kernel : kitB "bool" "bool" = some true)
  · exact (by decide +kernel : kitB "bool" "str" = some false)
  · exact (by decide +kernel : kitB "bool" "tuple" = some false)
  · exact (by decide +kernel : kitB "bool" "list" = some false)
  · exact (by decide +kernel : kitB "int" "int" = some true)
  · exact (by decide +kernel : kitB "int" "bool" = some false)
  · exact (by decide +kernel : kitB "int" "str" = some false)
  · exact (by decide +kernel : kitB "int" "tuple" = some false)
  · exact (by decide +kernel : kitB "int" "list" = some false)
  · exact (by decide +kernel : kitB "str" "int" = some false)
  · exact (by decide +kernel : kitB "str" "bool" = some false)
  · exact (by decide +kernel : kitB "str" "str" = some true)
  · exact (by decide +kernel : kitB "str" "tuple" = some false)
  · exact (by decide +kernel : kitB "str" "list" = some false)
  · exact (by decide +kernel : kitB "list" "int" = some false)
  · exact (by decide +kernel : kitB "list" "bool" = some false)
  · exact (by decide +kernel : kitB "list" "str" = some false)
  · exact (by decide +kernel : kitB "list" "tuple" = some false)
  · exact (by decide +kernel : kitB "list" "list" = some true)
  · exact (by decide +kernel : kitB "tuple" "int" = some false)
  · exact (by decide +kernel : kitB "tuple" "bool" = some false)
  · exact (by decide +kernel : kitB "tuple" "str" = some false)
  · exact (by decide +kernel : kitB "tuple" "tuple" = some true)
  · exact (by decide +kernel : kitB "tuple" "list" = some false)
theorem boot_ty {n : String} (hn : n ∈ tyNames) : bootBuiltins (Str.ofString n) = some (.type n) := by
  have hn : n = "int" ∨ n = "bool" ∨ n = "str" ∨ n = "tuple" ∨ n = "list" := by simpa [tyNames] using hn
  rcases hn with rfl | rfl | rfl | rfl | rfl
  · exact PyProof.Rows.boot_int
  · exact PyProof.Rows.boot_bool
  · exact PyProof.Rows.boot_str
  · exact PyProof.Rows.boot_tuple
  · exact PyProof.Rows.boot_list
section
variable {X : Cx} {c : Cf} {A : List Addr} {σ : Sl} {h h1 h' : Hist} {x : D} {f : Fl} {e : Expr} {p p2 p3 pos : Pos}
theorem e_isi1 {n : String} (hn : n ∈ tyNames) (hg : Gl X "isinstance") (hm : X.mg "isinstance" = none) (hg2 : Gl X (Str.ofString n)) (hm2 : X.mg (Str.ofString n) = none) (hs : noStar e = true) (hnd : (Str.ofString n == ("__debug__" : Str)) = false) (hnn : Str.ofString n ≠ "__name__")
    (he : PE X e (tEv c A σ h x f h1)) (hf : f ≠ .ct) (nd : noDict x = true) : PE X (.Call (.Name "isinstance" p) [e, .Name (Str.ofString n) p2] [] pos) (tEv c A σ h (.bool (isT n x)) .pl h1) := by
  refine (pe_callB call_isi hg hm boot_isinstance (pa_cons he (pa_cons (pe_bltn (v := .ty n) hg2 hm2 (boot_ty hn) rfl hnn hnd) pa_nil) (star_ok hs)) (by decide) (by decide) (star_ok hs)).mono fun σV H Q ⟨s, w, q⟩ => ⟨s, w, fun v H1 k1 w1 r1 => ?_⟩
  obtain ⟨t, ht, hd⟩ := tyx (K := X.K) (r1.wn hf) nd
  exact ⟨v, .ty n, .type t, .type n, isT n x, rfl, .ty n, ht, kit_is hn hd, q _ _ k1 w1 (Rv.bl _)⟩
theorem e_isi2 {n m : String} {k : Nat} (hn : n ∈ tyNames) (hn2 : m ∈ tyNames) (hg : Gl X "isinstance") (hm : X.mg "isinstance" = none) (hg2 : Gl X (Str.ofString n)) (hm2 : X.mg (Str.ofString n) = none) (hg3 : Gl X (Str.ofString m)) (hm3 : X.mg (Str.ofString m) = none) (hs : noStar e = true)
    (hnd : (Str.ofString n == ("__debug__" : Str)) = false) (hnn : Str.ofString n ≠ "__name__") (hnd2 : (Str.ofString m == ("__debug__" : Str)) = false) (hnn2 : Str.ofString m ≠ "__name__") {p4 : Pos}
    (he : PE X e (tEv c A σ h x f h1)) (hf : f ≠ .ct) (nd : noDict x = true) : PE X (.Call (.Name "isinstance" p) [e, .Tuple [.Name (Str.ofString n) p2, .Name (Str.ofString m) p3] k p4] [] pos) (tEv c A σ h (.bool (isT n x || isT m x)) .pl h1) := by
  refine (pe_callB call_isiT hg hm boot_isinstance (pa_cons he (pa_cons (pe_tup (pa_cons (pe_bltn (v := .ty n) hg2 hm2 (boot_ty hn) rfl hnn hnd) (pa_cons (pe_bltn (v := .ty m) hg3 hm3 (boot_ty hn2) rfl hnn2 hnd2) pa_nil))) pa_nil) (star_ok hs)) (by decide) (by decide) (star_ok hs)).mono fun σV H Q ⟨s, w, q⟩ => ⟨s, w, fun v H1 k1 w1 r1 => ?_⟩
  refine ⟨by show 2 ≤ sizeLine; rw [sizeLine_eq]; decide, fun pp hp => ?_⟩
  obtain ⟨t, ht, hd⟩ := tyx (K := X.K) ((r1.wn hf).keep w.bin (Kp.new (o := .tup [.ty n, .ty m]) hp)) nd
  refine ⟨v, pp, [.ty n, .ty m], .type t, [.type n, .type m], isT n x || isT m x, rfl, upd_same, .cons (.ty n) (.cons (.ty m) .nil), ht, ?_, q _ _ (k1.trans (Kp.new hp)) (w1.new hp) (Rv.bl _)⟩
  refine kitAny_cons (kit_is hn hd) (fun e1 => ?_) (fun e1 => by rw [e1]; rfl)
  rw [e1, Bool.false_or]
  exact kitAny_cons (kit_is hn2 hd) (fun e2 => by rw [e2]; exact kitAny_nil) (fun e2 => e2)
end
end Og

end
section
set_option Elab.async false
set_option linter.all false
set_option maxRecDepth 100000
/-! Expressions: the interpreter is right. -/
namespace Og
open PySem PySem.Spec PyProof.Rows L2
section
variable {c : Cf} {o : Hist → Int → Int} {G : List D} {φ : Nat → List Og.Arg → Hist → RE} {k : Nat} {X : Cx} {A : List Addr} {σ : Sl} {h h1 h' : Hist} {Γ : Cc}
/-! ### calls of built-ins -/
theorem blt_mem {b : Blt} {n : Str} {v : Value} (h : bltFn b = some (n, v)) : n ∈ bltNames ∧ bootBuiltins n = some v ∧ n ≠ "__name__" ∧ (n == ("__debug__" : Str)) = false := by
  have d : ∀ {n : Str}, (n ≠ "__name__" ∧ (n == ("__debug__" : Str)) = false) → n ≠ "__name__" ∧ (n == ("__debug__" : Str)) = false := fun z => z
  cases b <;> simp only [bltFn] at h <;> cases h
  · exact ⟨by simp [bltNames], PySem.boot_len, by decide, by decide⟩
  · exact ⟨by simp [bltNames], PyProof.Rows.boot_tuple, by decide, by decide⟩
  · exact ⟨by simp [bltNames], PyProof.Rows.boot_list, by decide, by decide⟩
  · exact ⟨by simp [bltNames], PyProof.Rows.boot_sorted, by decide, by decide⟩
  · exact ⟨by simp [bltNames], PyProof.Rows.boot_sum, by decide, by decide⟩
  · exact ⟨by simp [bltNames], PyProof.Rows.boot_all, by decide, by decide⟩
  · exact ⟨by simp [bltNames], PyProof.Rows.boot_any, by decide, by decide⟩
  · exact ⟨by simp [bltNames], by decide +kernel, by decide, by decide⟩
  · exact ⟨by simp [bltNames], PyProof.Rows.boot_max, by decide, by decide⟩
  · exact ⟨by simp [bltNames], PyProof.Rows.boot_min, by decide, by decide⟩
  · exact ⟨by simp [bltNames], PyProof.Rows.boot_int, by decide, by decide⟩
  · exact ⟨by simp [bltNames], by decide +kernel, by decide, by decide⟩
/-- the call of a built-in function or type -/
theorem pe_bc {n : Str} {v : Value} {r : List V → Hp → VK → Prop} {e : Expr} {es : List Expr} {t : TA} {p pos : Pos} (hv : (∃ id, v = .builtin id) ∨ ∃ T, v = .type T) (hc : CallR X v r) (hg : Gl X n) (hm : X.mg n = none) (hb : bootBuiltins n = some v) (ha : PA X (e :: es) t) (hn : n ≠ "__name__") (hd : (n == ("__debug__" : Str)) = false)
    (hs : (e :: es).all noStar = true) : PE X (.Call (.Name n p) (e :: es) [] pos) (tCB r t) := by
  simp only [List.all_cons, Bool.and_eq_true] at hs
  rcases hv with ⟨id, rfl⟩ | ⟨T, rfl⟩
  · exact pe_callB hc hg hm hb ha hn hd (star_ok hs.1) (stars_ok hs.2)
  · exact pe_callTy hc hg hm hb ha hn hd (star_ok hs.1) (stars_ok hs.2)
theorem blt_call {b : Blt} {n : Str} {v : Value} {l : List D} {z : D} {f : Fl} (hf : bltFn b = some (n, v)) (hK : X.K = c.K) (hc : X.calm = true) (hu : X.A.units + 65 < cLine) (e : bltV b l h = .ok z f h') : ((∃ id, v = .builtin id) ∨ ∃ T, v = .type T) ∧ CallR X v (rBl c A h l z f h') := by
  cases b <;> simp only [bltFn] at hf <;> cases hf
  · exact ⟨.inl ⟨_, rfl⟩, bl_len hK e⟩
  · exact ⟨.inr ⟨_, rfl⟩, bl_tuple hK e⟩
  · exact ⟨.inr ⟨_, rfl⟩, bl_list hK e⟩
  · exact ⟨.inl ⟨_, rfl⟩, bl_sorted hK hu e⟩
  · exact ⟨.inl ⟨_, rfl⟩, bl_sum hK hc e⟩
  · exact ⟨.inl ⟨_, rfl⟩, bl_all hc e⟩
  · exact ⟨.inl ⟨_, rfl⟩, bl_any hc e⟩
  · exact ⟨.inl ⟨_, rfl⟩, bl_abs e⟩
  · exact ⟨.inl ⟨_, rfl⟩, bl_max2 hc e⟩
  · exact ⟨.inl ⟨_, rfl⟩, bl_min2 hc e⟩
  · exact ⟨.inr ⟨_, rfl⟩, bl_int1 e⟩
  · exact ⟨.inr ⟨_, rfl⟩, bl_dict1 hK hc hu e⟩
theorem bltV_one {b : Blt} {l : List D} {z : D} {f : Fl} {v} (hb : bltIs b = some v) (e : bltV b l h = .ok z f h') : ∃ x, l = [x] := by
  cases b <;> simp only [bltIs] at hb <;> first
    | cases hb; done
    | (match l, e with
       | [x], _ => exact ⟨x, rfl⟩
       | [], e => simp [bltV] at e
       | _ :: _ :: _, e => simp [bltV] at e)
theorem bltV_ne {b : Blt} {n v} {z : D} {f : Fl} (hb : bltFn b = some (n, v)) (e : bltV b [] h = .ok z f h') : False := by
  cases b <;> simp only [bltFn] at hb <;> first
    | (cases hb; done)
    | simp [bltV] at e
theorem ckL_len {Γ : Cc} : ∀ {es : E} {xs : List Expr} {σ : Sl} {h h' : Hist} {ys : List Og.Arg}, ckL es Γ xs = true → evs o G φ es σ h = .ok ys h' → ys.length = xs.length
  | .nil, xs, σ, h, h', ys, hc, e => by
    simp only [ckL] at hc
    simp only [evs] at e
    cases e
    cases xs with
    | nil => rfl
    | cons _ _ => cases hc
  | .cons a b, xs, σ, h, h', ys, hc, e => by
    simp only [ckL] at hc
    cases xs with
    | nil => cases hc
    | cons x r =>
      simp only [Bool.and_eq_true] at hc
      simp only [evs] at e
      split at e
      · split at e
        · rename_i e1; cases e; simp [ckL_len hc.2.2 e1]
        · cases e
      · split at e
        · split at e
          · rename_i e1; cases e; simp [ckL_len hc.2.2 e1]
          · cases e
        · cases e
  | .bad, _, _, _, _, _, hc, _ => by simp [ckL] at hc
  | .var _, _, _, _, _, _, hc, _ => by simp [ckL] at hc
  | .int _, _, _, _, _, _, hc, _ => by simp [ckL] at hc
  | .str _, _, _, _, _, _, hc, _ => by simp [ckL] at hc
  | .bl _, _, _, _, _, _, hc, _ => by simp [ckL] at hc
  | .non, _, _, _, _, _, hc, _ => by simp [ckL] at hc
  | .glo _, _, _, _, _, _, hc, _ => by simp [ckL] at hc
  | .tup _, _, _, _, _, _, hc, _ => by simp [ckL] at hc
  | .lst _, _, _, _, _, _, hc, _ => by simp [ckL] at hc
  | .dic _ _, _, _, _, _, _, hc, _ => by simp [ckL] at hc
  | .bin _ _ _, _, _, _, _, _, hc, _ => by simp [ckL] at hc
  | .neg _, _, _, _, _, _, hc, _ => by simp [ckL] at hc
  | .not _, _, _, _, _, _, hc, _ => by simp [ckL] at hc
  | .and _ _, _, _, _, _, _, hc, _ => by simp [ckL] at hc
  | .or _ _, _, _, _, _, _, hc, _ => by simp [ckL] at hc
  | .ite _ _ _, _, _, _, _, _, hc, _ => by simp [ckL] at hc
  | .cmp _ _ _, _, _, _, _, _, hc, _ => by simp [ckL] at hc
  | .chn _ _ _ _ _, _, _, _, _, _, hc, _ => by simp [ckL] at hc
  | .call _ _, _, _, _, _, _, hc, _ => by simp [ckL] at hc
  | .callk _ _ _, _, _, _, _, _, hc, _ => by simp [ckL] at hc
  | .take _ _, _, _, _, _, _, hc, _ => by simp [ckL] at hc
  | .blt _ _, _, _, _, _, _, hc, _ => by simp [ckL] at hc
  | .met _ _ _, _, _, _, _, _, hc, _ => by simp [ckL] at hc
  | .sub _ _, _, _, _, _, _, hc, _ => by simp [ckL] at hc
  | .slc _ _ _, _, _, _, _, _, hc, _ => by simp [ckL] at hc
  | .comp _ _ _ _ _ _, _, _, _, _, _, hc, _ => by simp [ckL] at hc
  | .dcomp _ _ _ _ _ _, _, _, _, _, _, hc, _ => by simp [ckL] at hc
theorem ckL_star {Γ : Cc} : ∀ {es : E} {xs : List Expr}, ckL es Γ xs = true → xs.all noStar = true
  | .nil, xs, hc => by
    simp only [ckL] at hc
    cases xs with
    | nil => rfl
    | cons _ _ => cases hc
  | .cons a b, xs, hc => by
    simp only [ckL] at hc
    cases xs with
    | nil => cases hc
    | cons x r =>
      simp only [Bool.and_eq_true] at hc
      simp only [List.all_cons, Bool.and_eq_true]
      exact ⟨hc.1, ckL_star hc.2.2⟩
  | .bad, _, hc => by simp [ckL] at hc
  | .var _, _, hc => by simp [ckL] at hc
  | .int _, _, hc => by simp [ckL] at hc
  | .str _, _, hc => by simp [ckL] at hc
  | .bl _, _, hc => by simp [ckL] at hc
  | .non, _, hc => by simp [ckL] at hc
  | .glo _, _, hc => by simp [ckL] at hc
  | .tup _, _, hc => by simp [ckL] at hc
  | .lst _, _, hc => by simp [ckL] at hc
  | .dic _ _, _, hc => by simp [ckL] at hc
  | .bin _ _ _, _, hc => by simp [ckL] at hc
  | .neg _, _, hc => by simp [ckL] at hc
  | .not _, _, hc => by simp [ckL] at hc
  | .and _ _, _, hc => by simp [ckL] at hc
  | .or _ _, _, hc => by simp [ckL] at hc
  | .ite _ _ _, _, hc => by simp [ckL] at hc
  | .cmp _ _ _, _, hc => by simp [ckL] at hc
  | .chn _ _ _ _ _, _, hc => by simp [ckL] at hc
  | .call _ _, _, hc => by simp [ckL] at hc
  | .callk _ _ _, _, hc => by simp [ckL] at hc
  | .take _ _, _, hc => by simp [ckL] at hc
  | .blt _ _, _, hc => by simp [ckL] at hc
  | .met _ _ _, _, hc => by simp [ckL] at hc
  | .sub _ _, _, hc => by simp [ckL] at hc
  | .slc _ _ _, _, hc => by simp [ckL] at hc
  | .comp _ _ _ _ _ _, _, hc => by simp [ckL] at hc
  | .dcomp _ _ _ _ _ _, _, hc => by simp [ckL] at hc
/-! ### walks -/
theorem walk_ok {kd : Kd} {tg iter : Expr} {xs : List Expr} {as : List Og.Arg} {l ys : List D} {B : Addr → Prop} (E : EnvOk c o G φ k Γ X) (hi : itArgs Γ kd tg iter = some xs) (hst : xs.all noStar = true) (hl : as.length = xs.length)
    (ha : PA X xs (tSyL c A B σ h l h1)) (ha1 : ∀ e, xs = [e] → ∀ d, l = [d] → PE X e (tSy1 c A B σ h d h1)) (hB : ∀ a, B a → a ∈ A) (hw : walkV kd l h1 = .ok ys h') : PI X tg iter (tIt c A B σ h ys h') := by
  have gl : ∀ {n : Str}, glB Γ.sc n = true → Gl X n := fun {n} z => by
    show X.env.scope.names.lookup n = _
    rw [E.sc]; exact glB_ok z
  cases kd with
  | seq =>
    simp only [itArgs] at hi
    cases hi
    have : ∃ d, l = [d] := by
      unfold walkV at hw
      split at hw <;> try (cases hw; done)
      all_goals (rename_i e2; cases e2)
      exact ⟨_, rfl⟩
    obtain ⟨d, rfl⟩ := this
    exact walk_seq E.K hB (ha1 _ rfl _ rfl) hw
  | rng1 =>
    simp only [itArgs] at hi
    split at hi
    · rename_i x p a q ec
      split at hi
      · rename_i hx
        cases hi
        simp only [Bool.and_eq_true] at hx
        have hx1 := eqS_iff hx.1
        subst hx1
        rw [asCall_ok ec]
        simp only [List.all_cons, List.all_nil, Bool.and_true] at hst
        exact walk_rng1 (gl hx.2) (E.blt _ (by simp [bltNames])) ha hw (star_ok hst)
      · cases hi
    · cases hi
  | rng2 =>
    simp only [itArgs] at hi
    split at hi
    · rename_i x p a b q ec
      split at hi
      · rename_i hx
        cases hi
        simp only [Bool.and_eq_true] at hx
        have hx1 := eqS_iff hx.1
        subst hx1
        rw [asCall_ok ec]
        simp only [List.all_cons, List.all_nil, Bool.and_true, Bool.and_eq_true] at hst
        exact walk_rng2 (gl hx.2) (E.blt _ (by simp [bltNames])) ha hw (by rw [star_ok hst.1, star_ok hst.2]; rfl) (star_ok hst.2)
      · cases hi
    · cases hi
  | rng3 =>
    simp only [itArgs] at hi
    split at hi
    · rename_i x p a b d q ec
      split at hi
      · rename_i hx
        cases hi
        simp only [Bool.and_eq_true] at hx
        have hx1 := eqS_iff hx.1
        subst hx1
        rw [asCall_ok ec]
        simp only [List.all_cons, List.all_nil, Bool.and_true, Bool.and_eq_true] at hst
        exact walk_rng3 (gl hx.2) (E.blt _ (by simp [bltNames])) ha hw (star_ok hst.1) (stars_ok (by simp only [List.all_cons, List.all_nil, Bool.and_true, Bool.and_eq_true]; exact hst.2))
      · cases hi
    · cases hi
  | enum =>
    simp only [itArgs] at hi
    split at hi
    · rename_i x p a q ec
      split at hi
      · rename_i hx
        cases hi
        simp only [Bool.and_eq_true] at hx
        have hx1 := eqS_iff hx.1.1
        subst hx1
        rw [asCall_ok ec]
        simp only [List.all_cons, List.all_nil, Bool.and_true] at hst
        cases tg <;> first
          | exact walk_enum E.K hB (gl hx.1.2) (E.blt _ (by simp [bltNames])) ha hw (star_ok hst)
          | (exact absurd hx.2 (by simp [isTupE]))
      · cases hi
    · cases hi
  | zip =>
    simp only [itArgs] at hi
    split at hi
    · rename_i x p a b q ec
      split at hi
      · rename_i hx
        cases hi
        simp only [Bool.and_eq_true] at hx
        have hx1 := eqS_iff hx.1.1
        subst hx1
        rw [asCall_ok ec]
        simp only [List.all_cons, List.all_nil, Bool.and_true, Bool.and_eq_true] at hst
        cases tg <;> first
          | exact walk_zip E.K hB (gl hx.1.2) (E.blt _ (by simp [bltNames])) ha hw (star_ok hst.1) (stars_ok (by simp only [List.all_cons, List.all_nil, Bool.and_true]; exact hst.2))
          | (exact absurd hx.2 (by simp [isTupE]))
      · cases hi
    · cases hi
  | items => simp [itArgs] at hi
  | values => simp [itArgs] at hi
end
end Og

end
section
set_option Elab.async false
set_option linter.all false
set_option maxRecDepth 100000
/-! Calls of a shape of their own. -/
namespace Og
open PySem PySem.Spec PyProof.Rows L2
section
variable {c : Cf} {X : Cx} {Γ : Cc}
theorem spSet_ok {n : Str} {ex : Expr} {ys : List Expr} (h : spSet Γ n ex = some ys) : ∃ a p p2 q pos, ex = .Call (.Name n p) [.Call (.Name "set" p2) [a] [] q] [] pos ∧ ys = [a] ∧ glB Γ.sc n = true ∧ glB Γ.sc "set" = true := by
  unfold spSet at h
  split at h
  rotate_left
  · cases h
  rename_i x p e pos ec
  split at h
  rotate_left
  · cases h
  rename_i y p2 a q ec2
  split at h
  rotate_left
  · cases h
  rename_i hc
  simp only [Bool.and_eq_true] at hc
  cases h
  have e1 := eqS_iff hc.1.1
  have e2 := eqS_iff hc.2.1
  subst e1 e2
  rw [asCall_ok ec, asCall_ok ec2]
  exact ⟨a, p, p2, q, pos, rfl, rfl, hc.1.2, hc.2.2⟩
theorem sp_not {b : Blt} {ex : Expr} {ys : List Expr} (h : spArg Γ b ex = some ys) (env : Env) (whole : Sem Value) : isTrue ex env whole = (do let v ← whole; standAt ex.pos; holding [v] (truthy v)) := by
  unfold spArg at h
  split at h
  · obtain ⟨a, p, p2, q, pos, rfl, _⟩ := spSet_ok h; rfl
  · obtain ⟨a, p, p2, q, pos, rfl, _⟩ := spSet_ok h; rfl
  · cases h
theorem sp_one {b : Blt} {ex : Expr} {ys : List Expr} {l : List D} {h1 h' : Hist} {z : D} {f : Fl} (h : spArg Γ b ex = some ys) (e : bltV b l h1 = .ok z f h') : ∃ x, l = [x] := by
  unfold spArg at h
  split at h
  · match l, e with
    | [x], _ => exact ⟨x, rfl⟩
    | [], e => simp [bltV] at e
    | _ :: _ :: _, e => simp [bltV] at e
  · match l, e with
    | [x], _ => exact ⟨x, rfl⟩
    | [], e => simp [bltV] at e
    | _ :: _ :: _, e => simp [bltV] at e
  · cases h
theorem sp_ok (hK : X.K = c.K) (hc : X.calm = true) (hg : ∀ {n : Str}, glB Γ.sc n = true → Gl X n) (hm : ∀ x ∈ bltNames, X.mg x = none) {b : Blt} {ex : Expr} {ys : List Expr} (h : spArg Γ b ex = some ys) :
    ∃ a, ys = [a] ∧ ∀ A σ h h1 y f1, PE X a (tEv c A σ h y f1 h1) → f1 ≠ .ct → noStar a = true → ∀ z fl h', bltV b [y] h1 = .ok z fl h' → PE X ex (tEv c A σ h z fl h') := by
  unfold spArg at h
  split at h
  · obtain ⟨a, p, p2, q, pos, rfl, rfl, g1, g2⟩ := spSet_ok h
    refine ⟨a, rfl, fun A σ h h1 y f1 ha hf hs z fl h' e => ?_⟩
    simp only [bltV] at e
    split at e
    rotate_left
    · cases e
    rename_i xs es
    split at e
    rotate_left
    · cases e
    rename_i l ei
    split at e
    rotate_left
    · cases e
    rename_i hlt
    obtain ⟨rfl, rfl, rfl⟩ := kIx e
    refine (pe_lenSetI hc (hg g1) (hm _ (by simp [bltNames])) (hg g2) (hm _ (by simp [bltNames])) ha (star_ok hs)).mono fun σV H Q ⟨s, w, q⟩ => ⟨s, w, fun v H1 k1 w1 r1 => ⟨l, ?_, Nat.blt_eq.mp hlt, q _ _ k1 w1 (Rv.int _)⟩⟩
    rcases seq_ints hK es ei (r1.wn hf) with ⟨b, e1, e2⟩ | ⟨b, e1, e2⟩
    · exact ⟨b, e1, .inl e2⟩
    · exact ⟨b, e1, .inr e2⟩
  · obtain ⟨a, p, p2, q, pos, rfl, rfl, g1, g2⟩ := spSet_ok h
    refine ⟨a, rfl, fun A σ h h1 y f1 ha hf hs z fl h' e => ?_⟩
    simp only [bltV] at e
    split at e
    rotate_left
    · cases e
    rename_i xs es
    split at e
    rotate_left
    · cases e
    rename_i l ei
    split at e
    rotate_left
    · cases e
    rename_i hlt
    cases e
    refine (pe_srtSet hc (hg g1) (hm _ (by simp [bltNames])) (hg g2) (hm _ (by simp [bltNames])) ha (star_ok hs)).mono fun σV H Q ⟨s, w, q⟩ => ⟨s, w, fun v H1 k1 w1 r1 => ⟨l, ?_, Nat.blt_eq.mp hlt, fun p hp => q _ _ (k1.trans (Kp.new hp)) (w1.new hp) ((vl_newL w1 hp (rvl_ints _)).back w.bin k1)⟩⟩
    rcases seq_ints hK es ei (r1.wn hf) with ⟨b, e1, e2⟩ | ⟨b, e1, e2⟩
    · exact ⟨b, e1, .inl e2⟩
    · exact ⟨b, e1, .inr e2⟩
  · cases h
end
end Og

end
section
set_option Elab.async false
set_option linter.all false
set_option maxRecDepth 100000
set_option maxHeartbeats 400000
/-! Expressions: the interpreter is right. -/
namespace Og
open PySem PySem.Spec PyProof.Rows L2
section
variable {c : Cf} {o : Hist → Int → Int} {G : List D} {φ : Nat → List Og.Arg → Hist → RE} {k : Nat}
theorem EnvOk.gl {X : Cx} {Γ : Cc} (E : EnvOk c o G φ k Γ X) {n : Str} (z : glB Γ.sc n = true) : Gl X n := by
  show X.env.scope.names.lookup n = _
  rw [E.sc]; exact glB_ok z
theorem boxAt_var {e : E} {σ : Sl} (h : boxAt e σ = true) : ∃ i, e = .var i ∧ getS σ i = some .box := by
  unfold boxAt at h
  split at h
  · rename_i i σ
    split at h
    · rename_i e1; exact ⟨_, rfl, e1⟩
    · cases h
  · cases h
theorem ne_ct {f : Fl} : f ≠ .ct ↔ f = .wk ∨ f = .pl ∨ f = .fr := by cases f <;> simp
theorem fin_false {r : RE} : fin false r = r := rfl
/-- weak arguments for a comprehension's walk -/
theorem syl_weak {X : Cx} {A : List Addr} {σ : Sl} {h h1 : Hist} {xs : List Expr} {as : List Og.Arg} {l : List D} (ha : PA X xs (tEvs c A σ h as h1)) (hl : weaks as = some l) : PA X xs (tSyL c A (fun a => c.bx = some a) σ h l h1) :=
  ha.mono fun σV H Q ⟨s, w, q⟩ => ⟨s, w, fun vs H1 k1 w1 r1 => q vs H1 k1 w1 (.wr w.bin (r1.weaks hl))⟩
theorem syl_steady {X : Cx} {A : List Addr} {σ : Sl} {h h1 : Hist} {xs : List Expr} {as : List Og.Arg} {l : List D} (ha : PA X xs (tEvs c A σ h as h1)) (hl : steadys as = some l) : PA X xs (tSyL c A (· ∈ A) σ h l h1) :=
  ha.mono fun σV H Q ⟨s, w, q⟩ => ⟨s, w, fun vs H1 k1 w1 r1 => q vs H1 k1 w1 (.steady r1 hl)⟩
theorem sy1_weak {X : Cx} {A : List Addr} {σ : Sl} {h h1 : Hist} {e : Expr} {x : D} {f : Fl} (ha : PE X e (tEv c A σ h x f h1)) : PE X e (tSy1 c A (fun a => c.bx = some a) σ h x h1) :=
  ha.mono fun σV H Q ⟨s, w, q⟩ => ⟨s, w, fun v H1 k1 w1 r1 => q v H1 k1 w1 (.wr w.bin r1.wr)⟩
theorem sy1_steady {X : Cx} {A : List Addr} {σ : Sl} {h h1 : Hist} {e : Expr} {x : D} {f : Fl} (ha : PE X e (tEv c A σ h x f h1)) (hf : f ≠ .wk) : PE X e (tSy1 c A (· ∈ A) σ h x h1) :=
  ha.mono fun σV H Q ⟨s, w, q⟩ => ⟨s, w, fun v H1 k1 w1 r1 => q v H1 k1 w1 (by
    cases f with
    | wk => exact absurd rfl hf
    | ct => obtain ⟨a, rfl, g⟩ := r1; exact .gw g
    | pl => exact .rv (fun _ z => z) r1
    | fr => exact .rv (fun _ z => z) (r1.rv (by decide) (by decide)))⟩
theorem perm_arl {H : Hp} {A : List Addr} : ∀ {pm : List Nat} {vs : List V} {xs ys : List Og.Arg}, ArL c H A vs xs → permA xs pm = some ys → ArL c H A (permL vs pm) ys
  | [], vs, xs, ys, r, e => by simp only [permA] at e; cases e; exact .nil
  | i :: pm, vs, xs, ys, r, e => by
    simp only [permA] at e
    split at e
    · rename_i a l e1 e2
      cases e
      have get : ∀ {vs : List V} {xs : List Og.Arg} {i : Nat} {a : Og.Arg}, ArL c H A vs xs → xs[i]? = some a → ∃ v, vs[i]? = some v ∧ ArR c H A v a := by
        intro vs xs i a r
        induction r generalizing i with
        | nil => intro e; simp at e
        | cons r t ih =>
          intro e
          cases i with
          | zero => simp at e; subst e; exact ⟨_, rfl, r⟩
          | succ i => simp at e; obtain ⟨v, h1, h2⟩ := ih e; exact ⟨v, by simpa using h1, h2⟩
      obtain ⟨v, hv, rv⟩ := get r e1
      have : permL vs (i :: pm) = v :: permL vs pm := by unfold permL; simp [hv]
      rw [this]
      exact .cons rv (perm_arl r e2)
    · cases e
theorem perm_pass : ∀ {pm : List Nat} {xs ys : List Og.Arg}, passes xs = true → permA xs pm = some ys → passes ys = true := by
  have get : ∀ {xs : List Og.Arg} {i : Nat} {a : Og.Arg}, passes xs = true → xs[i]? = some a → ∀ r, passes r = true → passes (a :: r) = true := by
    intro xs
    induction xs with
    | nil => intro i a h e; simp at e
    | cons x t ih =>
      intro i a h e r hr
      have ht : passes t = true := by
        cases x with
        | box => simpa [passes] using h
        | d x f => cases f <;> simp_all [passes]
      cases i with
      | zero =>
        simp at e; subst e
        cases x with
        | box => simpa [passes] using hr
        | d x f => cases f <;> simp_all [passes]
      | succ i => simp at e; exact ih ht e r hr
  intro pm
  induction pm with
  | nil => intro xs ys h e; simp only [permA] at e; cases e; rfl
  | cons i pm ih =>
    intro xs ys h e
    simp only [permA] at e
    split at e
    · rename_i a l e1 e2
      cases e
      exact get h e1 _ (ih h e2)
    · cases e
theorem perm_len : ∀ {pm : List Nat} {xs ys : List Og.Arg}, permA xs pm = some ys → ys.length = pm.length
  | [], xs, ys, e => by simp only [permA] at e; cases e; rfl
  | i :: pm, xs, ys, e => by
    simp only [permA] at e
    split at e
    · rename_i e2; cases e; simp [perm_len e2]
    · cases e
theorem kw_all {env : Env} {pos : Pos} : ∀ {kws : List Keyword} {ks : List Str} {xs : List Expr}, kwNames kws = some (ks, xs) → (backToKw pos (keywordEach kws env)).all (·.1.isSome) = true ∧ (backToKw pos (keywordEach kws env)).filterMap (·.1) = ks ∧ (backToKw pos (keywordEach kws env)).any (·.1.isNone) = false
  | [], ks, xs, e => by simp only [kwNames] at e; cases e; exact ⟨rfl, rfl, rfl⟩
  | ⟨some n, e0, p⟩ :: r, ks, xs, e => by
    simp only [kwNames] at e
    split at e
    · rename_i ns es e1
      cases e
      obtain ⟨h1, h2, h3⟩ := kw_all (env := env) (pos := pos) e1
      refine ⟨?_, ?_, ?_⟩
      · show (true && (backToKw pos (keywordEach r env)).all (·.1.isSome)) = true
        rw [h1]; rfl
      · show n :: (backToKw pos (keywordEach r env)).filterMap (·.1) = _
        rw [h2]
      · show (false || (backToKw pos (keywordEach r env)).any (·.1.isNone)) = false
        rw [h3]; rfl
    · cases e
  | ⟨none, e0, p⟩ :: r, ks, xs, e => by simp [kwNames] at e
theorem t_iteT {X : Cx} {A : List Addr} {σ : Sl} {h h1 h2 : Hist} {t a b : Expr} {pos : Pos} {b2 : Bool} (hc : PT X t (tTs c A σ h true h1)) (ha : PT X a (tTs c A σ h1 b2 h2)) : PT X (.IfExp t a b pos) (tTs c A σ h b2 h2) := by
  refine ⟨fun pins s σV H Q I ⟨q1, q2, q3⟩ => ?_⟩
  show wpAny _ _ (isTrue t X.env (eval t X.env) >>= fun x => if x = true then isTrue a X.env (eval a X.env) else isTrue b X.env (eval b X.env)) _ _ _
  refine wpAny_bind (thn (hc.run pins s σV H (fun k H1 => k = true ∧ tTs c A σ h1 b2 h2 σV H1 Q) I ⟨q1, q2, fun H1 k1 w1 => ⟨rfl, q1.keep q2.bin k1, w1, fun H2 k2 w2 => q3 _ (k1.trans k2) w2⟩⟩) fun k s1 ⟨H1, I1, ek, q⟩ => ?_)
  subst ek
  rw [if_pos rfl]
  exact ha.run pins s1 σV H1 Q I1 q
theorem t_iteF {X : Cx} {A : List Addr} {σ : Sl} {h h1 h2 : Hist} {t a b : Expr} {pos : Pos} {b2 : Bool} (hc : PT X t (tTs c A σ h false h1)) (ha : PT X b (tTs c A σ h1 b2 h2)) : PT X (.IfExp t a b pos) (tTs c A σ h b2 h2) := by
  refine ⟨fun pins s σV H Q I ⟨q1, q2, q3⟩ => ?_⟩
  show wpAny _ _ (isTrue t X.env (eval t X.env) >>= fun x => if x = true then isTrue a X.env (eval a X.env) else isTrue b X.env (eval b X.env)) _ _ _
  refine wpAny_bind (thn (hc.run pins s σV H (fun k H1 => k = false ∧ tTs c A σ h1 b2 h2 σV H1 Q) I ⟨q1, q2, fun H1 k1 w1 => ⟨rfl, q1.keep q2.bin k1, w1, fun H2 k2 w2 => q3 _ (k1.trans k2) w2⟩⟩) fun k s1 ⟨H1, I1, ek, q⟩ => ?_)
  subst ek
  rw [if_neg (by decide)]
  exact ha.run pins s1 σV H1 Q I1 q
theorem PK.mono {X : Cx} {e : List Keyword} {t t' : TA} (h : PK X e t) (i : ∀ σ H R, t' σ H R → t σ H R) : PK X e t' := ⟨fun pos pins s σ H R I q => h.run pos pins s σ H R I (i _ _ _ q)⟩
/-- f(k = v, ..) -/
theorem pe_callK0 {X : Cx} {CX : CXT} {k : Nat} {f : Addr} {fd : FuncData} {ps ks : List Str} {sp : Sp} {E : XK} {x : Str} {p pos : Pos} {kws : List Keyword} {tk : TA} {g : List Value → List Value → List Value} {gV : List V → List V → List V}
    (F : FnOk X.prog X.w X.K X.mg X.base CX k f fd ps sp) (hr : Room k X.A) (hg : Gl X x) (hm : X.mg x = some (.ref f)) (hk : PySem.W.keepIn X.K (.ref f) = true) (hb : KBinds X.K fd ps ks g gV) (hx : Passes CX X E)
    (hkw : PK X kws tk) (hall : (backToKw pos (keywordEach kws X.env)).all (·.1.isSome) = true) (hks : (backToKw pos (keywordEach kws X.env)).filterMap (·.1) = ks)
    (hdb : (x == ("__debug__" : Str)) = false) (hpl : (backToKw pos (keywordEach kws X.env)).any (·.1.isNone) = false) :
    PE X (.Call (.Name x p) [] kws pos) (tCallK sp gV E tNil tk) := by
  refine ⟨fun pins s σ H Q I h => ?_⟩
  refine wpAny_Call_Name_kw (ld_glob I hg hm ?_ hdb)
  refine PySem.W.callWith_KW0 (h₀ := X.base) I.ok.mod.kin hk hall (thn (hkw.run pos pins s σ H _ I h) fun ws s2 ⟨zs, H2, I2, rz, q2⟩ => ⟨I2.kIn, ?_⟩) hpl
  rw [hks]
  exact run_fnk F hr hb hx I2 .nil rz q2
theorem rgArg_ok {Γ : Cc} {xs ys : List Expr} (h : rgArg Γ xs = some ys) : ∃ a p q, xs = [.Call (.Name "range" p) [a] [] q] ∧ ys = [a] ∧ glB Γ.sc "range" = true := by
  unfold rgArg at h
  split at h
  · rename_i e
    split at h
    · rename_i x p a q ec
      split at h
      · rename_i hx
        cases h
        simp only [Bool.and_eq_true] at hx
        have := eqS_iff hx.1
        subst this
        rw [asCall_ok ec]
        exact ⟨a, p, q, rfl, rfl, hx.2⟩
      · cases h
    · cases h
  · cases h
theorem rng_map : ∀ (n : Nat) (lo : Int), rngN n lo = (List.range n).map fun i => PyData.int (lo + (i : Nat))
  | 0, lo => rfl
  | n + 1, lo => by
    simp only [rngN, iF_eq]
    rw [rng_map n (lo + 1), List.range_succ_eq_map, List.map_cons, List.map_map]
    congr 1
    · simp
    · apply List.map_congr_left
      intro i _
      show PyData.int (lo + 1 + (i : Int)) = PyData.int (lo + ((i + 1 : Nat) : Int))
      congr 1
      omega
theorem rg_rv {H : Hp} {A : List Addr} (n : Int) : RvL c H A (rgV 0 n) (rngN n.toNat 0) := by
  rw [rng_map]
  unfold rgV
  rw [Int.sub_zero]
  have : ∀ l : List Nat, RvL c H A (l.map fun (i : Nat) => V.int (0 + (i : Nat))) (l.map fun (i : Nat) => PyData.int (0 + (i : Nat))) := by
    intro l
    induction l with
    | nil => exact .nil
    | cons a r ih => exact .cons (.int _) ih
  exact this _
theorem e_void {X : Cx} {A : List Addr} {σ : Sl} {h h' : Hist} {ex : Expr} {x : D} {f : Fl} (n : ¬ Bin c.bx A) : PE X ex (tEv c A σ h x f h') := ⟨fun pins s σV H Q I ⟨_, w, _⟩ => absurd w.bin n⟩
theorem nil_of {Γ : Cc} {b : E} (h : ckL b Γ [] = true) : b = .nil := by
  cases b <;> first | rfl | simp [ckL] at h
theorem nil_h {Γ : Cc} {b : E} {σ : Sl} {h h' : Hist} {ys : List Og.Arg} (hc : ckL b Γ [] = true) (e : evs o G φ b σ h = .ok ys h') : h' = h := by
  rw [nil_of hc] at e; simp only [evs] at e; cases e; rfl
theorem nil_e {Γ : Cc} {b : E} {σ : Sl} {h h' : Hist} {ys : List Og.Arg} (hc : ckL b Γ [] = true) (e : evs o G φ b σ h = .ok ys h') : ys = [] := by
  rw [nil_of hc] at e; simp only [evs] at e; cases e; rfl
theorem kwn_nil {kws : List Keyword} {ks : List Str} (h : kwNames kws = some (ks, [])) : kws = [] := by
  cases kws with
  | nil => rfl
  | cons a r =>
    obtain ⟨n, e, p⟩ := a
    cases n with
    | none => simp [kwNames] at h
    | some n =>
      simp only [kwNames] at h
      split at h
      · cases h
      · cases h
theorem kwn_cons {kws : List Keyword} {ks : List Str} {x : Expr} {r : List Expr} (h : kwNames kws = some (ks, x :: r)) : ∃ n p kws' ks', kws = ⟨some n, x, p⟩ :: kws' ∧ kwNames kws' = some (ks', r) := by
  cases kws with
  | nil => simp [kwNames] at h
  | cons a r =>
    obtain ⟨n, e, p⟩ := a
    cases n with
    | none => simp [kwNames] at h
    | some n =>
      simp only [kwNames] at h
      split at h
      · rename_i ns es e1
        cases h
        exact ⟨n, p, r, ns, rfl, e1⟩
      · cases h
theorem near1 {as : List Og.Arg} {y : D} (h : nearly as = some [y]) : ∃ f, as = [.d y f] ∧ f ≠ .ct := by
  cases as with
  | nil => simp [nearly] at h
  | cons a r =>
    cases a with
    | box => simp [nearly] at h
    | d x f =>
      have key : nearly (.d x f :: r) = some [y] → f ≠ .ct → ∃ f', (Og.Arg.d x f :: r : List Og.Arg) = [.d y f'] ∧ f' ≠ .ct := fun h n => by
        cases hr : nearly r with
        | none => cases f <;> simp [nearly, hr] at h
        | some l =>
          have : x = y ∧ l = [] := by cases f <;> simp [nearly, hr] at h <;> exact h
          obtain ⟨rfl, rfl⟩ := this
          cases r with
          | nil => exact ⟨f, rfl, n⟩
          | cons b t =>
            cases b with
            | box => simp [nearly] at hr
            | d z g =>
              cases g <;> simp only [nearly] at hr <;> (try (cases hr; done)) <;> split at hr <;> cases hr
      cases f with
      | ct => simp [nearly] at h
      | wk => obtain ⟨f, e, n⟩ := key h (by decide); exact ⟨f, e, n⟩
      | pl => obtain ⟨f, e, n⟩ := key h (by decide); exact ⟨f, e, n⟩
      | fr => obtain ⟨f, e, n⟩ := key h (by decide); exact ⟨f, e, n⟩
theorem weak1 {as : List Og.Arg} {y : D} (h : weaks as = some [y]) : ∃ f, as = [.d y f] := by
  match as, h with
  | [], h => simp [weaks] at h
  | [.box], h => simp [weaks] at h
  | [.d x f], h => simp only [weaks] at h; cases h; exact ⟨f, rfl⟩
  | .box :: _ :: _, h => simp [weaks] at h
  | .d x f :: b :: t, h =>
    simp only [weaks] at h
    split at h
    · rename_i l e
      cases b with
      | box => simp [weaks] at e
      | d z g =>
        simp only [weaks] at e
        split at e
        · cases e; cases h
        · cases e
    · cases h
theorem steady0 {as : List Og.Arg} (h : steadys as = some []) : as = [] := by
  cases as with
  | nil => rfl
  | cons a r =>
    cases a with
    | box => simp [steadys] at h
    | d x f =>
      cases hr : steadys r with
      | none => cases f <;> simp [steadys, hr] at h
      | some l' => cases f <;> simp [steadys, hr] at h
theorem steady1 {as : List Og.Arg} {y : D} (h : steadys as = some [y]) : ∃ f, as = [.d y f] ∧ f ≠ .wk := by
  cases as with
  | nil => simp [steadys] at h
  | cons a r =>
    cases a with
    | box => simp [steadys] at h
    | d x f =>
      cases hr : steadys r with
      | none => cases f <;> simp [steadys, hr] at h
      | some l =>
        have key : f ≠ .wk ∧ x = y ∧ l = [] := by cases f <;> simp [steadys, hr] at h <;> exact ⟨by decide, h⟩
        obtain ⟨n, rfl, rfl⟩ := key
        rw [steady0 hr]
        exact ⟨f, rfl, n⟩
theorem str1 {as : List Og.Arg} {y : D} {l : List D} (h : strongs as = some (y :: l)) : ∃ f r, as = .d y f :: r ∧ f ≠ .ct ∧ f ≠ .wk ∧ strongs r = some l := by
  cases as with
  | nil => simp [strongs] at h
  | cons a r =>
    cases a with
    | box => simp [strongs] at h
    | d x f =>
      cases hr : strongs r with
      | none => cases f <;> simp [strongs, hr] at h
      | some l' =>
        cases f <;> simp [strongs, hr] at h
        · obtain ⟨rfl, rfl⟩ := h; exact ⟨_, _, rfl, by decide, by decide, hr⟩
        · obtain ⟨rfl, rfl⟩ := h; exact ⟨_, _, rfl, by decide, by decide, hr⟩
theorem str0 {as : List Og.Arg} (h : strongs as = some []) : as = [] := by
  cases as with
  | nil => rfl
  | cons a r =>
    cases a with
    | box => simp [strongs] at h
    | d x f =>
      cases hr : strongs r with
      | none => cases f <;> simp [strongs, hr] at h
      | some l' => cases f <;> simp [strongs, hr] at h
theorem str2 {as : List Og.Arg} {y z : D} (h : strongs as = some [y, z]) : ∃ f g, as = [.d y f, .d z g] ∧ f ≠ .ct ∧ f ≠ .wk ∧ g ≠ .ct ∧ g ≠ .wk := by
  obtain ⟨f, r, rfl, n1, n2, h2⟩ := str1 h
  obtain ⟨g, r2, rfl, n3, n4, h3⟩ := str1 h2
  rw [str0 h3]
  exact ⟨f, g, rfl, n1, n2, n3, n4⟩
theorem isArg1 {Γ : Cc} {n : Str} {xs ys : List Expr} (h : isArg Γ [n] xs = some ys) : ∃ e p2, xs = [e, .Name n p2] ∧ ys = [e] ∧ glB Γ.sc n = true := by
  unfold isArg at h
  split at h
  rotate_left
  · cases h
  rename_i e t
  split at h
  · rename_i n' en
    cases en
    split at h
    · rename_i hn
      cases h
      unfold nameIs at hn
      split at hn
      · rename_i x p
        simp only [Bool.and_eq_true] at hn
        have := eqS_iff hn.1
        subst this
        exact ⟨e, p, rfl, rfl, hn.2⟩
      · cases hn
    · cases h
  · rename_i hne
    exact absurd rfl (hne n)
theorem isArg2 {Γ : Cc} {n m : Str} {xs ys : List Expr} (h : isArg Γ [n, m] xs = some ys) : ∃ e k p2 p3 p4, xs = [e, .Tuple [.Name n p2, .Name m p3] k p4] ∧ ys = [e] ∧ glB Γ.sc n = true ∧ glB Γ.sc m = true := by
  unfold isArg at h
  split at h
  rotate_left
  · cases h
  rename_i e t
  split at h
  · rename_i en
    cases en
  · split at h
    · rename_i ts kk p4
      split at h
      · rename_i hn
        cases h
        cases ts with
        | nil => simp [namesAre] at hn
        | cons a r =>
          cases r with
          | nil => simp [namesAre] at hn
          | cons b r =>
            cases r with
            | cons _ _ => simp [namesAre] at hn
            | nil =>
              simp only [namesAre, Bool.and_eq_true, Bool.and_true] at hn
              obtain ⟨h1, h2⟩ := hn
              unfold nameIs at h1 h2
              split at h1
              · rename_i x p
                split at h2
                · rename_i x2 p2
                  simp only [Bool.and_eq_true] at h1 h2
                  have := eqS_iff h1.1
                  subst this
                  have := eqS_iff h2.1
                  subst this
                  exact ⟨e, kk, p, p2, p4, rfl, rfl, h1.2, h2.2⟩
                · cases h2
              · cases h1
      · cases h
    · cases h
theorem isi_ok {X : Cx} {Γ : Cc} {b : Blt} {ns : List Str} {xs ys : List Expr} {p q : Pos} (E : EnvOk c o G φ k Γ X) (hb : bltIs b = some ns) (hg : glB Γ.sc "isinstance" = true) (hi : isArg Γ ns xs = some ys) : ∃ e, ys = [e] ∧ ∀ A σ h h1 x f, PE X e (tEv c A σ h x f h1) → f ≠ .ct → noStar e = true →
    ∀ z fl h', bltV b [x] h1 = .ok z fl h' → PE X (.Call (.Name "isinstance" p) xs [] q) (tEv c A σ h z fl h') := by
  have mI : X.mg "isinstance" = none := E.blt _ (by simp [bltNames])
  have one : ∀ (n : String), n ∈ tyNames → Str.ofString n ∈ bltNames → (Str.ofString n == ("__debug__" : Str)) = false → Str.ofString n ≠ "__name__" → isArg Γ [Str.ofString n] xs = some ys → ∃ e, ys = [e] ∧ ∀ A σ h h1 x f, PE X e (tEv c A σ h x f h1) → f ≠ .ct → noStar e = true →
      ∀ z fl h', (match noDict x with | true => mkB (isT n x) h1 | false => .no) = .ok z fl h' → PE X (.Call (.Name "isinstance" p) xs [] q) (tEv c A σ h z fl h') := fun n hn hm hd hnn hi => by
    obtain ⟨e, p2, rfl, rfl, g2⟩ := isArg1 hi
    refine ⟨e, rfl, fun A σ h h1 x f he hf hs z fl h' ez => ?_⟩
    split at ez
    · rename_i nd
      obtain ⟨rfl, rfl, rfl⟩ := kB ez
      exact e_isi1 hn (E.gl hg) mI (E.gl g2) (E.blt _ hm) hs hd hnn he hf nd
    · cases ez
  have two : ∀ (n m : String), n ∈ tyNames → m ∈ tyNames → Str.ofString n ∈ bltNames → Str.ofString m ∈ bltNames → (Str.ofString n == ("__debug__" : Str)) = false → Str.ofString n ≠ "__name__" → (Str.ofString m == ("__debug__" : Str)) = false → Str.ofString m ≠ "__name__" →
      isArg Γ [Str.ofString n, Str.ofString m] xs = some ys → ∃ e, ys = [e] ∧ ∀ A σ h h1 x f, PE X e (tEv c A σ h x f h1) → f ≠ .ct → noStar e = true →
      ∀ z fl h', (match noDict x with | true => mkB (isT n x || isT m x) h1 | false => .no) = .ok z fl h' → PE X (.Call (.Name "isinstance" p) xs [] q) (tEv c A σ h z fl h') := fun n m hn hn2 hm hm2 hd hnn hd2 hnn2 hi => by
    obtain ⟨e, kk, p2, p3, p4, rfl, rfl, g2, g3⟩ := isArg2 hi
    refine ⟨e, rfl, fun A σ h h1 x f he hf hs z fl h' ez => ?_⟩
    split at ez
    · rename_i nd
      obtain ⟨rfl, rfl, rfl⟩ := kB ez
      exact e_isi2 hn hn2 (E.gl hg) mI (E.gl g2) (E.blt _ hm) (E.gl g3) (E.blt _ hm2) hs hd hnn hd2 hnn2 he hf nd
    · cases ez
  cases b <;> simp only [bltIs] at hb <;> cases hb
  · exact one "int" (by simp [tyNames]) (by simp [bltNames]) (by decide) (by decide) hi
  · exact one "bool" (by simp [tyNames]) (by simp [bltNames]) (by decide) (by decide) hi
  · exact one "str" (by simp [tyNames]) (by simp [bltNames]) (by decide) (by decide) hi
  · exact one "tuple" (by simp [tyNames]) (by simp [bltNames]) (by decide) (by decide) hi
  · exact one "list" (by simp [tyNames]) (by simp [bltNames]) (by decide) (by decide) hi
  · exact two "list" "tuple" (by simp [tyNames]) (by simp [tyNames]) (by simp [bltNames]) (by simp [bltNames]) (by decide) (by decide) (by decide) (by decide) hi
  · exact two "tuple" "list" (by simp [tyNames]) (by simp [tyNames]) (by simp [bltNames]) (by simp [bltNames]) (by decide) (by decide) (by decide) (by decide) hi
  · exact two "bool" "str" (by simp [tyNames]) (by simp [tyNames]) (by simp [bltNames]) (by simp [bltNames]) (by decide) (by decide) (by decide) (by decide) hi
mutual
theorem ev_ok : ∀ (e : E) (Γ : Cc) (X : Cx), EnvOk c o G φ k Γ X → ∀ (ex : Expr), ck e Γ ex = true → ∀ (m : Bool) (σ : Sl) (h : Hist) (x : D) (f : Fl) (h' : Hist), ev o G φ e m σ h = .ok x f h' → ∀ A, Res c X A σ h ex m x f h'
  | .nil, Γ, X, E, ex, hc => by simp [ck] at hc
  | .cons _ _, Γ, X, E, ex, hc => by simp [ck] at hc
  | .dic es _, Γ, X, E, ex, hc => by
    intro m σ h x f h' e A
    simp only [ck] at hc
    split at hc
    rotate_left
    · cases hc
    simp only [Bool.and_eq_true] at hc
    simp only [ev] at e
    refine res_fin E.K (fun x f h' er => ?_) (fun _ => rfl) e
    split at er
    rotate_left
    · cases er
    rename_i ps h1 ea
    split at er
    rotate_left
    · cases er
    rename_i hle
    split at er
    rotate_left
    · cases er
    rename_i kvs em
    cases er
    obtain ⟨d1, d2, d3, d4⟩ := evd_ok es Γ X E _ _ hc.2
    exact e_disp E.room2 (d1 _) d2 d3 (Nat.le_of_ble_eq_true hc.1) d4 ea (Nat.le_of_ble_eq_true hle) em
  | .bad, Γ, X, E, ex, hc => by
    intro m σ h x f h' e A
    simp [ev] at e
  | .var i, Γ, X, E, ex, hc => by
    intro m σ h x f h' e A
    simp only [ck] at hc
    split at hc
    rotate_left
    · cases hc
    simp only [Bool.and_eq_true] at hc
    simp only [ev] at e
    exact res_fin E.K (fun x f h' er => e_var (by rw [E.N]; exact eqO_iff hc.1) (by rw [E.sc]; exact visB_ok hc.2.1) (dbg1 hc.2.2) (dbg2 hc.2.2) er) (fun _ => rfl) e
  | .int i, Γ, X, E, ex, hc => by
    intro m σ h x f h' e A
    simp only [ck] at hc
    split at hc
    rotate_left
    · cases hc
    rename_i j _ _
    have : i = j := by rw [eqI_iff] at hc; exact of_decide_eq_true hc
    subst this
    simp only [ev] at e
    exact res_fin E.K (fun x f h' er => by cases er; exact e_con pe_int fun _ => .int _) (fun _ => rfl) e
  | .str s, Γ, X, E, ex, hc => by
    intro m σ h x f h' e A
    simp only [ck] at hc
    split at hc
    rotate_left
    · cases hc
    have := eqS_iff hc
    subst this
    simp only [ev] at e
    exact res_fin E.K (fun x f h' er => by cases er; exact e_con pe_str fun _ => .str _) (fun _ => rfl) e
  | .bl b, Γ, X, E, ex, hc => by
    intro m σ h x f h' e A
    simp only [ck] at hc
    split at hc
    rotate_left
    · cases hc
    have := eq_of_beq hc
    subst this
    simp only [ev] at e
    exact res_fin E.K (fun x f h' er => by cases er; exact e_con pe_bl fun _ => .bl _) (fun _ => rfl) e
  | .non, Γ, X, E, ex, hc => by
    intro m σ h x f h' e A
    simp only [ck] at hc
    split at hc
    rotate_left
    · cases hc
    simp only [ev] at e
    exact res_fin E.K (fun x f h' er => by cases er; exact e_con pe_non fun _ => .non) (fun _ => rfl) e
  | .glo i, Γ, X, E, ex, hc => by
    intro m σ h x f h' e A
    simp only [ck] at hc
    split at hc
    rotate_left
    · cases hc
    simp only [Bool.and_eq_true] at hc
    simp only [ev] at e
    refine res_fin E.K (fun x f h' er => ?_) (fun _ => rfl) e
    split at er
    rotate_left
    · cases er
    rename_i d ed
    cases er
    obtain ⟨u, v, hm, r, g⟩ := E.glo i _ _ (eqO_iff hc.1.2) ed hc.1.1
    unfold GlR at g
    cases ef : flG x with
    | ct => rw [ef] at g; exact e_glo (pe_glob (E.gl hc.2.1) hm r (dbg1 hc.2.2)) g
    | pl => rw [ef] at g; exact e_con (pe_glob (E.gl hc.2.1) hm r (dbg1 hc.2.2)) fun H => g H A
    | wk => cases x <;> simp [flG] at ef
    | fr => cases x <;> simp [flG] at ef
  | .tup es, Γ, X, E, ex, hc => by
    intro m σ h x f h' e A
    simp only [ck] at hc
    split at hc
    rotate_left
    · cases hc
    simp only [Bool.and_eq_true] at hc
    simp only [ev] at e
    refine res_fin E.K (fun x f h' er => ?_) (fun _ => rfl) e
    split at er
    · rename_i as h1 ea
      split at er
      · rename_i l el
        cases er
        have hl := ckL_len hc.2 ea
        have h1000 : _ < 1000 := Nat.blt_eq.mp hc.1
        exact e_tup (evs_ok es Γ X E _ hc.2 σ h as _ ea A) el (by omega)
      · cases er
    · cases er
  | .lst es, Γ, X, E, ex, hc => by
    intro m σ h x f h' e A
    simp only [ck] at hc
    split at hc
    rotate_left
    · cases hc
    simp only [Bool.and_eq_true] at hc
    simp only [ev] at e
    refine res_fin E.K (fun x f h' er => ?_) (fun _ => rfl) e
    split at er
    · rename_i as h1 ea
      split at er
      · rename_i l el
        cases er
        have hl := ckL_len hc.2 ea
        have h1000 : _ < 1000 := Nat.blt_eq.mp hc.1
        exact e_lst (evs_ok es Γ X E _ hc.2 σ h as _ ea A) el (by omega)
      · cases er
    · cases er
  | .bin op a b, Γ, X, E, ex, hc => by
    intro m σ h x f h' e A
    simp only [ck] at hc
    split at hc
    rotate_left
    · cases hc
    simp only [Bool.and_eq_true, decide_eq_true_eq] at hc
    obtain ⟨h0, h1, h2⟩ := hc
    subst h0
    simp only [ev] at e
    refine res_fin E.K (fun x f h' er => ?_) (fun _ => rfl) e
    split at er
    · rename_i x1 k1 e1
      split at er
      · rename_i y1 k2 e2
        obtain ⟨f1, e1, n1⟩ := nc_ok e1
        obtain ⟨f2, e2, n2⟩ := nc_ok e2
        exact e_bin E.K ((ev_ok a Γ X E _ h1 false _ _ _ _ _ e1 A).1 rfl) n1 ((ev_ok b Γ X E _ h2 false _ _ _ _ _ e2 A).1 rfl) n2 er
      · cases er
    · cases er
  | .neg a, Γ, X, E, ex, hc => by
    intro m σ h x f h' e A
    simp only [ck] at hc
    split at hc
    rotate_left
    · cases hc
    simp only [ev] at e
    refine res_fin E.K (fun x f h' er => ?_) (fun _ => rfl) e
    split at er
    · rename_i i f1 k1 e1
      obtain ⟨rfl, rfl, rfl⟩ := kIx er
      exact e_neg ((ev_ok a Γ X E _ hc false _ _ _ _ _ e1 A).1 rfl)
    · cases er
  | .not a, Γ, X, E, ex, hc => by
    intro m σ h x f h' e A
    simp only [ck] at hc
    split at hc
    rotate_left
    · cases hc
    simp only [ev] at e
    split at e
    rotate_left
    · cases e
    rename_i x1 f1 k1 e1
    split at e
    rotate_left
    · cases e
    rename_i b eb
    obtain ⟨rfl, rfl, rfl⟩ := kB e
    have r1 := ev_ok a Γ X E _ hc m _ _ _ _ _ e1 A
    refine ⟨fun z => e_not E.K (r1.1 z) eb, fun z => ?_⟩
    obtain ⟨b', rfl, p⟩ := r1.2 z
    cases eb
    exact ⟨_, rfl, t_not p⟩
  | .and a b, Γ, X, E, ex, hc => by
    intro m σ h x f h' e A
    simp only [ck] at hc
    split at hc
    rotate_left
    · cases hc
    simp only [Bool.and_eq_true] at hc
    simp only [ev] at e
    split at e
    · rename_i f1 k1 e1
      have r1 := ev_ok a Γ X E _ hc.1 m _ _ _ _ _ e1 A
      have r2 := ev_ok b Γ X E _ hc.2 m _ _ _ _ _ e A
      refine ⟨fun z => e_andT (r1.1 z) (r2.1 z), fun z => ?_⟩
      obtain ⟨b1, q1, p1⟩ := r1.2 z
      cases q1
      obtain ⟨b2, rfl, p2⟩ := r2.2 z
      exact ⟨b2, rfl, t_andT p1 p2⟩
    · rename_i f1 k1 e1
      have r1 := ev_ok a Γ X E _ hc.1 m _ _ _ _ _ e1 A
      cases e
      refine ⟨fun z => e_andF (r1.1 z), fun z => ?_⟩
      obtain ⟨b1, q1, p1⟩ := r1.2 z
      cases q1
      exact ⟨false, rfl, t_andF p1⟩
    · cases e
  | .or a b, Γ, X, E, ex, hc => by
    intro m σ h x f h' e A
    simp only [ck] at hc
    split at hc
    rotate_left
    · cases hc
    simp only [Bool.and_eq_true] at hc
    simp only [ev] at e
    split at e
    · rename_i f1 k1 e1
      have r1 := ev_ok a Γ X E _ hc.1 m _ _ _ _ _ e1 A
      cases e
      refine ⟨fun z => e_orT (r1.1 z), fun z => ?_⟩
      obtain ⟨b1, q1, p1⟩ := r1.2 z
      cases q1
      exact ⟨true, rfl, t_orT p1⟩
    · rename_i f1 k1 e1
      have r1 := ev_ok a Γ X E _ hc.1 m _ _ _ _ _ e1 A
      have r2 := ev_ok b Γ X E _ hc.2 m _ _ _ _ _ e A
      refine ⟨fun z => e_orF (r1.1 z) (r2.1 z), fun z => ?_⟩
      obtain ⟨b1, q1, p1⟩ := r1.2 z
      cases q1
      obtain ⟨b2, rfl, p2⟩ := r2.2 z
      exact ⟨b2, rfl, t_orF p1 p2⟩
    · cases e
  | .ite t a b, Γ, X, E, ex, hc => by
    intro m σ h x f h' e A
    simp only [ck] at hc
    split at hc
    rotate_left
    · cases hc
    simp only [Bool.and_eq_true] at hc
    simp only [ev] at e
    split at e
    · rename_i f1 k1 e1
      obtain ⟨b1, q1, p1⟩ := (ev_ok t Γ X E _ hc.1 true _ _ _ _ _ e1 A).2 rfl
      cases q1
      have r2 := ev_ok a Γ X E _ hc.2.1 m _ _ _ _ _ e A
      refine ⟨fun z => e_iteT p1 (r2.1 z), fun z => ?_⟩
      obtain ⟨b2, rfl, p2⟩ := r2.2 z
      exact ⟨b2, rfl, t_iteT p1 p2⟩
    · rename_i f1 k1 e1
      obtain ⟨b1, q1, p1⟩ := (ev_ok t Γ X E _ hc.1 true _ _ _ _ _ e1 A).2 rfl
      cases q1
      have r2 := ev_ok b Γ X E _ hc.2.2 m _ _ _ _ _ e A
      refine ⟨fun z => e_iteF p1 (r2.1 z), fun z => ?_⟩
      obtain ⟨b2, rfl, p2⟩ := r2.2 z
      exact ⟨b2, rfl, t_iteF p1 p2⟩
    · cases e
  | .cmp op a b, Γ, X, E, ex, hc => by
    intro m σ h x f h' e A
    simp only [ck] at hc
    split at hc
    rotate_left
    · cases hc
    simp only [Bool.and_eq_true, decide_eq_true_eq] at hc
    obtain ⟨h0, hs, h1, h2⟩ := hc
    subst h0
    simp only [ev] at e
    split at e
    rotate_left
    · cases e
    rename_i x1 k1 e1
    split at e
    rotate_left
    · cases e
    rename_i y1 f2 k2 e2
    split at e
    rotate_left
    · cases e
    rename_i ect
    obtain ⟨f1, e1, n1⟩ := nc_ok e1
    have pa := (ev_ok a Γ X E _ h1 false _ _ _ _ _ e1 A).1 rfl
    have pb := (ev_ok b Γ X E _ h2 false _ _ _ _ _ e2 A).1 rfl
    obtain ⟨bb, rfl, rfl, rfl⟩ := cmpV_b e
    exact ⟨fun _ => e_cmp E.K E.w E.room2 pa n1 pb ect e (mark_ok hs), fun _ => ⟨bb, rfl, t_cmp E.K E.w E.room2 pa n1 pb ect e (mark_ok hs)⟩⟩
  | .chn o1 o2 a b d, Γ, X, E, ex, hc => by
    intro m σ h x f h' e A
    simp only [ck] at hc
    split at hc
    rotate_left
    · cases hc
    simp only [Bool.and_eq_true, decide_eq_true_eq] at hc
    obtain ⟨h0, h00, hs, h1, h2, h3⟩ := hc
    subst h0
    subst h00
    simp only [ev] at e
    split at e
    rotate_left
    · cases e
    rename_i x1 k1 e1
    split at e
    rotate_left
    · cases e
    rename_i y1 k2 e2
    obtain ⟨f1, e1, n1⟩ := nc_ok e1
    obtain ⟨f2, e2, n2⟩ := nc_ok e2
    have pa := (ev_ok a Γ X E _ h1 false _ _ _ _ _ e1 A).1 rfl
    have pb := (ev_ok b Γ X E _ h2 false _ _ _ _ _ e2 A).1 rfl
    have hm : ∀ y z, noSet z = true → lastMarks [copP o1, copP o2] [y, z] = false := fun y z hz => mark_ok (op := copP o2) hz
    split at e
    · rename_i f3 k3 e3
      split at e
      rotate_left
      · cases e
      rename_i z1 k4 e4
      obtain ⟨f4, e4, n4⟩ := nc_ok e4
      have pd := (ev_ok d Γ X E _ h3 false _ _ _ _ _ e4 A).1 rfl
      obtain ⟨bb, rfl, rfl, rfl⟩ := cmpV_b e
      exact ⟨fun _ => e_chnT E.K E.w E.room2 pa n1 pb n2 e3 pd n4 e (hm _ _ hs), fun _ => ⟨bb, rfl, t_chnT E.K E.w E.room2 pa n1 pb n2 e3 pd n4 e (hm _ _ hs)⟩⟩
    · rename_i f3 k3 e3
      cases e
      exact ⟨fun _ => e_chnF E.K E.w E.room2 pa n1 pb n2 e3 (hm _ _ hs), fun _ => ⟨false, rfl, t_chnF E.K E.w E.room2 pa n1 pb n2 e3 (hm _ _ hs)⟩⟩
    · cases e
  | .call g es, Γ, X, E, ex, hc => by
    intro m σ h x f h' e A
    simp only [ck] at hc
    split at hc
    rotate_left
    · cases hc
    rename_i n p xs q ec
    split at hc
    rotate_left
    · cases hc
    rename_i n' ps ef
    simp only [Bool.and_eq_true] at hc
    obtain ⟨⟨hne, hn⟩, hg, hd, hnp, hl⟩ := hc
    have := eqS_iff hn
    subst this
    rw [asCall_ok ec]
    simp only [ev] at e
    refine res_fin E.K (fun x f h' er => ?_) (fun _ => rfl) e
    split at er
    · rename_i as h1 ea
      split at er
      · rename_i hp
        obtain ⟨fa, fd, F, hm, hk, hb, _⟩ := E.fns g _ _ ef hne
        have pa := evs_ok es Γ X E _ hl σ h as _ ea A
        have hlen := ckL_len hl ea
        have hst := ckL_star hl
        have hnp : xs.length = ps.length := Nat.eq_of_beq_eq_true hnp
        cases xs with
        | nil =>
          have has : as = [] := List.eq_nil_of_length_eq_zero (by simpa using hlen)
          subst has
          refine e_call (E := L2.E0) ((pe_call0 F E.room (E.gl hg) hm hk hb .nil pass0 (dbg1 hd)).mono fun σV H Q t => ?_) hp (by simpa using hnp) er
          obtain ⟨s, w, q⟩ := t
          have h1h : h1 = h := by
            cases es <;> simp [ckL] at hl
            simp only [evs] at ea
            cases ea; rfl
          subst h1h
          exact q [] H .refl w .nil
        | cons e1 es1 =>
          simp only [List.all_cons, Bool.and_eq_true] at hst
          exact e_call (E := L2.E0) (pe_call F E.room (E.gl hg) hm hk hb .nil pass0 pa (dbg1 hd) (star_ok hst.1) (stars_ok hst.2)) hp (by omega) er
      · cases er
    · cases er
  | .callk g pm es, Γ, X, E, ex, hc => by
    intro m σ h x f h' e A
    simp only [ck] at hc
    split at hc
    rotate_left
    · cases hc
    rename_i n p kws q ec
    split at hc
    rotate_left
    · cases hc
    rename_i n' ps ks xs ef ek
    simp only [Bool.and_eq_true] at hc
    obtain ⟨⟨hne, hn⟩, hg, ⟨hd, hpm⟩, hkw, hl⟩ := hc
    have := eqS_iff hn
    subst this
    rw [asCallK_ok ec]
    simp only [ev] at e
    refine res_fin E.K (fun x f h' er => ?_) (fun _ => rfl) e
    split at er
    · rename_i as h1 ea
      split at er
      · rename_i hp
        split at er
        · rename_i ys ey
          obtain ⟨fa, fd, F, hm, hk, hb, hkb⟩ := E.fns g _ _ ef hne
          have hmem : (g, ks, pm) ∈ Γ.kw := by
            obtain ⟨t, ht, h3⟩ := List.any_eq_true.mp hkw
            simp only [Bool.and_eq_true, decide_eq_true_eq] at h3
            obtain ⟨h4, h5, h6⟩ := h3
            obtain ⟨t1, t2, t3⟩ := t
            have h4 : t1 = g := Nat.eq_of_beq_eq_true h4
            have h5 : t2 = ks := h5
            have h6 : t3 = pm := h6
            subst h4; subst h5; subst h6
            exact ht
          have pk := kws_ok es Γ X E _ _ _ ek hl σ h as _ ea A
          obtain ⟨k1, k2, k3⟩ := kw_all (env := X.env) (pos := q) ek
          refine (pe_callK0 (E := L2.E0) F E.room (E.gl hg) hm hk (hkb ks pm hmem) pass0 pk k1 k2 (dbg1 hd) k3).mono fun σV H Q ⟨s, w, q⟩ => ?_
          show tEvs c A σ h as h1 σV H _
          refine ⟨s, w, fun vs H1 k1 w1 r1 => ⟨A, ys, h1, x, f, h', er, ?_, perm_pass hp ey, perm_arl r1 ey, w1, fun v H2 k2 w2 r2 => q v H2 (k1.trans k2) w2 (r2.back w.bin k1)⟩⟩
          rw [perm_len ey]
          exact Nat.eq_of_beq_eq_true hpm
        · cases er
      · cases er
    · cases er
  | .take b n, Γ, X, E, ex, hc => by
    intro m σ h x f h' e A
    simp only [ck] at hc
    split at hc
    rotate_left
    · cases hc
    rename_i nm p e1 e2 q ec
    simp only [Bool.and_eq_true] at hc
    obtain ⟨hn, hg, s1, s2, hb, hn2⟩ := hc
    have := eqS_iff hn
    subst this
    rw [asCall_ok ec]
    simp only [ev] at e
    refine res_fin E.K (fun x f h' er => ?_) (fun _ => rfl) e
    split at er
    rotate_left
    · cases er
    rename_i hbx
    split at er
    rotate_left
    · cases er
    rename_i nn fn hh en
    split at er
    rotate_left
    · cases er
    rename_i hcond
    simp only [Bool.and_eq_true] at hcond
    obtain ⟨⟨c1, c2⟩, c3⟩ := hcond
    obtain ⟨rfl, rfl, rfl⟩ := kIx er
    obtain ⟨i, rfl, hgs⟩ := boxAt_var hbx
    obtain ⟨fa, fd, ps, F, hm, hk, hbd⟩ := E.take
    simp only [ck] at hb
    split at hb
    rotate_left
    · cases hb
    simp only [Bool.and_eq_true] at hb
    have pb := e_box (c := c) (A := A) (h := h) (X := X) (pos := ‹Pos›) (by rw [E.N]; exact eqO_iff hb.1) (by rw [E.sc]; exact visB_ok hb.2.1) (dbg1 hb.2.2) (dbg2 hb.2.2) hgs
    have pn := (ev_ok n Γ X E _ hn2 false _ _ _ _ _ en A).1 rfl
    have hpos : 0 < nn := by rw [ltI_iff] at c1; exact of_decide_eq_true c1
    have h64 := (small_iff c2).2
    have hlen : hh.length < 1000000 := Nat.blt_eq.mp c3
    exact e_take (E := L2.E0) (pe_call F E.room (E.gl hg) hm hk hbd .nil pass0 (a_box pb (a_cons pn a_nil (star_ok s2)) (star_ok s1)) (by decide) (star_ok s1) (stars_ok (by simp only [List.all_cons, List.all_nil, Bool.and_true]; exact s2))) hpos h64 hlen
  | .blt b es, Γ, X, E, ex, hc => by
    intro m σ h x f h' e A
    simp only [ck] at hc
    split at hc
    · split at hc
      rotate_left
      · cases hc
      rename_i ys hys
      simp only [ev] at e
      refine res_fin E.K (fun x f h' er => ?_) (sp_not hys _) e
      split at er
      rotate_left
      · cases er
      rename_i as h1 ea
      split at er
      rotate_left
      · cases er
      rename_i l el
      obtain ⟨a, rfl, hsp⟩ := sp_ok E.K E.calm (fun z => E.gl z) E.blt hys
      obtain ⟨y, rfl⟩ := sp_one hys er
      obtain ⟨f1, has, hf1⟩ := near1 el
      subst has
      have hst : noStar a = true := by have := ckL_star hc; simpa using this
      exact hsp A σ h h1 y f1 (one_ok es Γ X E _ hc σ h y f1 h1 ea A) hf1 hst _ _ _ er
    split at hc
    rotate_left
    · cases hc
    rename_i n p xs q ec
    rw [asCall_ok ec]
    simp only [ev] at e
    refine res_fin E.K (fun x f h' er => ?_) (fun _ => rfl) e
    split at er
    rotate_left
    · cases er
    rename_i as h1 ea
    split at er
    rotate_left
    · cases er
    rename_i l el
    split at hc
    · rename_i n' v eb
      simp only [Bool.and_eq_true] at hc
      obtain ⟨hn, hg, hl⟩ := hc
      have := eqS_iff hn
      subst this
      obtain ⟨b1, b2, b3, b4⟩ := blt_mem eb
      obtain ⟨hv, hcall⟩ := blt_call (A := A) eb E.K E.calm E.room2 er
      have pa := evs_ok es Γ X E _ hl σ h as _ ea A
      have hlen := ckL_len hl ea
      cases xs with
      | nil =>
        have has : as = [] := List.eq_nil_of_length_eq_zero (by simpa using hlen)
        subst has
        simp only [nearly] at el
        cases el
        exact (bltV_ne eb er).elim
      | cons e1 es1 => exact e_blt (pe_bc hv hcall (E.gl hg) (E.blt _ b1) b2 pa b3 b4 (ckL_star hl)) el
    · split at hc
      rotate_left
      · simp only [Bool.and_eq_true] at hc
        obtain ⟨hlr, hn, hg, hc⟩ := hc
        have := eqS_iff hn
        subst this
        cases b <;> simp only [isListR] at hlr <;> try (cases hlr; done)
        split at hc
        rotate_left
        · cases hc
        rename_i ys hys
        obtain ⟨e1, p1, q1, rfl, rfl, gr⟩ := rgArg_ok hys
        have hl1 : ∃ y, l = [y] := by
          match l, er with
          | [y], _ => exact ⟨y, rfl⟩
          | [], er => simp [bltV] at er
          | _ :: _ :: _, er => simp [bltV] at er
        obtain ⟨y, rfl⟩ := hl1
        obtain ⟨f1, has, hf1⟩ := near1 el
        subst has
        have hst : noStar e1 = true := by have := ckL_star hc; simpa using this
        have pe := one_ok es Γ X E _ hc σ h y f1 h1 ea A
        simp only [bltV] at er
        split at er
        rotate_left
        · cases er
        rename_i nn
        split at er
        rotate_left
        · cases er
        rename_i hcond
        cases er
        simp only [Bool.and_eq_true] at hcond
        have h0 : 0 ≤ nn := by have := hcond.1; rw [leI_iff] at this; exact of_decide_eq_true this
        have hl := lenOk_iff hcond.2
        rw [sizeLine_eq] at hl
        refine (pe_listRg E.calm (E.gl hg) (E.blt _ (by simp [bltNames])) (prg_1 (E.gl gr) (E.blt _ (by simp [bltNames])) pe (star_ok hst))).mono fun σV H Q ⟨s, w, q⟩ => ⟨s, w, fun v H1 k1 w1 r1 => ⟨nn, r1.wr.int, ⟨by omega, by omega, by omega, by omega, by omega⟩, fun p hp => ?_⟩⟩
        exact q _ _ (k1.trans (Kp.new hp)) (w1.new hp) ((vl_newL w1 hp (rg_rv nn)).back w.bin k1)
      rename_i ns hns
      simp only [Bool.and_eq_true] at hc
      obtain ⟨hn, hg, hc⟩ := hc
      have := eqS_iff hn
      subst this
      split at hc
      rotate_left
      · cases hc
      rename_i ys hys
      obtain ⟨y, rfl⟩ := bltV_one hns er
      obtain ⟨e1, hy, hsp⟩ := isi_ok (c := c) (p := p) (q := q) E hns hg hys
      subst hy
      obtain ⟨f1, has, hf1⟩ := near1 el
      subst has
      exact hsp A σ h h1 y f1 (one_ok es Γ X E _ hc σ h y f1 h1 ea A) hf1 (by have := ckL_star hc; simpa using this) x f h' er
  | .met t a es, Γ, X, E, ex, hc => by
    intro m σ h x f h' e A
    simp only [ck] at hc
    split at hc
    rotate_left
    · cases hc
    rename_i oe n p e1 e2 q ec
    cases t <;> simp only at hc <;> try (cases hc; done)
    simp only [Bool.and_eq_true] at hc
    obtain ⟨hn, hb, hend, ha, hl⟩ := hc
    have := eqS_iff hn
    subst this
    rw [asMeth_ok ec]
    simp only [ev] at e
    refine res_fin E.K (fun x f h' er => ?_) (fun _ => rfl) e
    split at er
    rotate_left
    · cases er
    rename_i x1 k1 ea1
    split at er
    rotate_left
    · cases er
    rename_i as k2 eas
    split at er
    rotate_left
    · cases er
    rename_i l el
    obtain ⟨f1, ea1, n1⟩ := nc_ok ea1
    have hl2 : ∃ y z, l = [y, z] := by
      unfold metV at er
      split at er
      · rename_i ee; exact ⟨_, _, rfl⟩
      · cases er
    obtain ⟨y, z, rfl⟩ := hl2
    obtain ⟨g1, g2, has, d1, d2, d3, d4⟩ := str2 el
    subst has
    obtain ⟨hm, pe1, pe2⟩ := two_ok es Γ X E _ _ hl σ k1 y g1 z g2 k2 eas A
    have hst := ckL_star hl
    simp only [List.all_cons, List.all_nil, Bool.and_true, Bool.and_eq_true] at hst
    have tr : backTo q (starEach [e1, e2] X.env) = [(false, eval e1 X.env), (false, eval e2 X.env)] := by rw [star_ok hst.1, star_ok hst.2]; rfl
    exact e_get2 E.room2 ((ev_ok a Γ X E _ ha false _ _ _ _ _ ea1 A).1 rfl) n1 pe1 d1 pe2 d4 d3 er ⟨base_ok hb, by rw [tr]; rfl, hend, tr⟩
  | .sub a i, Γ, X, E, ex, hc => by
    intro m σ h x f h' e A
    simp only [ck] at hc
    split at hc
    rotate_left
    · cases hc
    simp only [Bool.and_eq_true] at hc
    simp only [ev] at e
    refine res_fin E.K (fun x f h' er => ?_) (fun _ => rfl) e
    split at er
    rotate_left
    · cases er
    rename_i x1 f1 k1 e1
    split at er
    rotate_left
    · cases er
    rename_i y1 k2 e2
    split at er
    rotate_left
    · cases er
    rename_i ect
    obtain ⟨f2, e2, n2⟩ := nc_ok e2
    exact e_sub E.K E.w E.room2 ((ev_ok a Γ X E _ hc.2.1 false _ _ _ _ _ e1 A).1 rfl) ((ev_ok i Γ X E _ hc.2.2 false _ _ _ _ _ e2 A).1 rfl) n2 ect er (ix_ok hc.1)
  | .slc a lo hi, Γ, X, E, ex, hc => by
    intro m σ h x f h' e A
    simp only [ck] at hc
    split at hc
    rotate_left
    · cases hc
    simp only [Bool.and_eq_true] at hc
    obtain ⟨h1, h2, h3⟩ := hc
    simp only [ev] at e
    refine res_fin E.K (fun x f h' er => ?_) (fun _ => rfl) e
    split at er
    rotate_left
    · cases er
    rename_i x1 k1 e1
    split at er
    rotate_left
    · cases er
    rename_i as1 k2 e2
    split at er
    rotate_left
    · cases er
    rename_i l1 e3
    split at er
    rotate_left
    · cases er
    rename_i as2 k3 e4
    split at er
    rotate_left
    · cases er
    rename_i u1 e5
    obtain ⟨f1, e1, n1⟩ := nc_ok e1
    exact e_slc E.K ((ev_ok a Γ X E _ h1 false _ _ _ _ _ e1 A).1 rfl) n1 (opt_ok lo Γ X E _ h2 _ _ _ _ e2 _ e3 A) (opt_ok hi Γ X E _ h3 _ _ _ _ e4 _ e5 A) er
  | .comp elt own tg kd its ifs, Γ, X, E, ex, hc => by
    intro m σ h x f h' e A
    simp only [ck] at hc
    split at hc
    rotate_left
    · cases hc
    rename_i elt' tg' iter ifs' scope p ec
    split at hc
    rotate_left
    · cases hc
    rename_i xs hi
    simp only [Bool.and_eq_true] at hc
    obtain ⟨hns, hblk, hsl, hits, htg, helt, hif1, hifs⟩ := hc
    rw [asComp_ok ec]
    simp only [ev] at e
    refine res_fin E.K (fun x f h' er => ?_) (fun _ => rfl) e
    split at er
    rotate_left
    · cases er
    rename_i as k1 ea
    split at er
    rotate_left
    · cases er
    rename_i l el
    split at er
    rotate_left
    · cases er
    rename_i ys k2 ew
    split at er
    rotate_left
    · cases er
    rename_i zs k3 ecl
    split at er
    rotate_left
    · cases er
    rename_i hz
    cases er
    have hlen := ckL_len hits ea
    have hown : ∀ j ∈ slotsT tg, j ∈ (ownOf Γ own).map (·.2) := by
      rw [ownOf_snd]
      intro j hj
      have := List.all_eq_true.mp hsl j hj
      simpa using this
    by_cases hbin : Bin c.bx A
    rotate_left
    · exact e_void hbin
    refine e_comp (own := ownOf Γ own) E.calm (by rw [E.N]; exact E.nd) (walk_ok E hi (ckL_star hits) hlen (syl_weak (evs_ok its Γ X E _ hits σ h as _ ea A) el) (fun e1 he d hd => ?_) (fun a z => ?_) ew) (by rw [E.N, E.sc]; exact blk_ok hblk)
      (fun s H C cl fp => tg_ok (Γ := Γ.blk scope) (X := X.blk s H scope (compEnvC scope cl C X.env) fp) E.K E.calm E.nd E.N (E.blk s H scope C cl fp).sc rfl tg _ htg)
      (fun s H C cl fp => ifs_ok ifs (Γ.blk scope) _ (E.blk s H scope C cl fp) _ hifs (Nat.le_of_ble_eq_true hif1))
      (fun s H C cl fp => PE.gen fun A σ h x f h' e => (ev_ok elt (Γ.blk scope) _ (E.blk s H scope C cl fp) _ helt false σ h x f h' e A).1 rfl) (set_ok hns) hown (by rw [ownOf_snd]; exact ecl) hz
    · subst he
      subst hd
      obtain ⟨f1, has⟩ := weak1 el
      subst has
      exact sy1_weak (one_ok its Γ X E _ hits σ h d f1 k1 ea A)
    · exact hbin a z
  | .dcomp key val own tg kd its, Γ, X, E, ex, hc => by
    intro m σ h x f h' e A
    simp only [ck] at hc
    split at hc
    rotate_left
    · cases hc
    rename_i key' val' tg' iter scope p ec
    split at hc
    rotate_left
    · cases hc
    rename_i xs hi
    simp only [Bool.and_eq_true] at hc
    obtain ⟨hns, hblk, hsl, hits, htg, hkey, hval⟩ := hc
    rw [asDcomp_ok ec]
    simp only [ev] at e
    refine res_fin E.K (fun x f h' er => ?_) (fun _ => rfl) e
    split at er
    rotate_left
    · cases er
    rename_i as k1 ea
    split at er
    rotate_left
    · cases er
    rename_i l el
    split at er
    rotate_left
    · cases er
    rename_i ys k2 ew
    have hlen := ckL_len hits ea
    have hown : ∀ j ∈ slotsT tg, j ∈ (ownOf Γ own).map (·.2) := by
      rw [ownOf_snd]
      intro j hj
      have := List.all_eq_true.mp hsl j hj
      simpa using this
    by_cases hbin : Bin c.bx A
    rotate_left
    · exact e_void hbin
    refine e_dcomp (own := ownOf Γ own) E.calm (by rw [E.N]; exact E.nd) (walk_ok E hi (ckL_star hits) hlen (syl_weak (evs_ok its Γ X E _ hits σ h as _ ea A) el) (fun e1 he d hd => ?_) (fun a z => ?_) ew) (by rw [E.N, E.sc]; exact blk_ok hblk)
      (fun s H C cl fp => tg_ok (Γ := Γ.blk scope) (X := X.blk s H scope (compEnvC scope cl C X.env) fp) E.K E.calm E.nd E.N (E.blk s H scope C cl fp).sc rfl tg _ htg)
      (fun s H C cl fp => PE.gen fun A σ h x f h' e => (ev_ok key (Γ.blk scope) _ (E.blk s H scope C cl fp) _ hkey false σ h x f h' e A).1 rfl)
      (fun s H C cl fp => PE.gen fun A σ h x f h' e => (ev_ok val (Γ.blk scope) _ (E.blk s H scope C cl fp) _ hval false σ h x f h' e A).1 rfl) (set_ok hns) hown (by rw [ownOf_snd]; exact er)
    · subst he
      subst hd
      obtain ⟨f1, has⟩ := weak1 el
      subst has
      exact sy1_weak (one_ok its Γ X E _ hits σ h d f1 k1 ea A)
    · exact hbin a z
theorem evd_ok : ∀ (es : E) (Γ : Cc) (X : Cx), EnvOk c o G φ k Γ X → ∀ (ks : List (Option Expr)) (vs : List Expr), ckD es Γ ks vs = true → (∀ pos, PPs X pos ks vs (trsOf c o G φ es)) ∧ ks.all (·.isSome) = true ∧ ks.length = vs.length ∧ (ks = [] → es = .nil) := by
  intro es
  cases es with
  | nil =>
    intro Γ X E ks vs hc
    simp only [ckD, Bool.and_eq_true] at hc
    cases ks with
    | cons _ _ => cases hc.1
    | nil =>
      cases vs with
      | cons _ _ => cases hc.2
      | nil => exact ⟨fun _ => pps_nil, rfl, rfl, fun _ => rfl⟩
  | cons a b =>
    cases b with
    | cons v r =>
      intro Γ X E ks vs hc
      simp only [ckD] at hc
      split at hc
      rotate_left
      · cases hc
      rename_i x ks' y vs'
      simp only [Bool.and_eq_true] at hc
      obtain ⟨h1, h2, h3⟩ := hc
      obtain ⟨d1, d2, d3, d4⟩ := evd_ok r Γ X E _ _ h3
      refine ⟨fun pos => pps_cons (PE.gen fun A σ h x f h' e => (ev_ok a Γ X E _ h1 false σ h x f h' e A).1 rfl) (PE.gen fun A σ h x f h' e => (ev_ok v Γ X E _ h2 false σ h x f h' e A).1 rfl) (d1 pos), ?_, ?_, ?_⟩
      · simp only [List.all_cons, Option.isSome_some, Bool.true_and]; exact d2
      · simp [d3]
      · intro z; cases z
    | _ => intro Γ X E ks vs hc; simp [ckD] at hc
  | _ => intro Γ X E ks vs hc; simp [ckD] at hc
theorem evs_ok : ∀ (es : E) (Γ : Cc) (X : Cx), EnvOk c o G φ k Γ X → ∀ (exs : List Expr), ckL es Γ exs = true → ∀ (σ : Sl) (h : Hist) (xs : List Og.Arg) (h' : Hist), evs o G φ es σ h = .ok xs h' → ∀ A, PA X exs (tEvs c A σ h xs h')
  | .nil, Γ, X, E, exs, hc => by
    intro σ h xs h' e A
    simp only [ckL] at hc
    simp only [evs] at e
    cases e
    cases exs with
    | nil => exact a_nil
    | cons _ _ => cases hc
  | .cons a b, Γ, X, E, exs, hc => by
    intro σ h xs h' e A
    simp only [ckL] at hc
    cases exs with
    | nil => cases hc
    | cons x r =>
      simp only [Bool.and_eq_true] at hc
      obtain ⟨hs, hca, hcb⟩ := hc
      simp only [evs] at e
      split at e
      · rename_i hbx
        split at e
        · rename_i ys h1 e1
          cases e
          obtain ⟨i, rfl, hgs⟩ := boxAt_var hbx
          simp only [ck] at hca
          split at hca
          rotate_left
          · cases hca
          simp only [Bool.and_eq_true] at hca
          exact a_box (e_box (by rw [E.N]; exact eqO_iff hca.1) (by rw [E.sc]; exact visB_ok hca.2.1) (dbg1 hca.2.2) (dbg2 hca.2.2) hgs) (evs_ok b Γ X E _ hcb _ _ _ _ e1 A) (star_ok hs)
        · cases e
      · split at e
        · rename_i x1 f1 h1 e1
          split at e
          · rename_i ys h2 e2
            cases e
            exact a_cons ((ev_ok a Γ X E _ hca false _ _ _ _ _ e1 A).1 rfl) (evs_ok b Γ X E _ hcb _ _ _ _ e2 A) (star_ok hs)
          · cases e
        · cases e
  | .bad, _, _, _, _, hc => by simp [ckL] at hc
  | .var _, _, _, _, _, hc => by simp [ckL] at hc
  | .int _, _, _, _, _, hc => by simp [ckL] at hc
  | .str _, _, _, _, _, hc => by simp [ckL] at hc
  | .bl _, _, _, _, _, hc => by simp [ckL] at hc
  | .non, _, _, _, _, hc => by simp [ckL] at hc
  | .glo _, _, _, _, _, hc => by simp [ckL] at hc
  | .tup _, _, _, _, _, hc => by simp [ckL] at hc
  | .lst _, _, _, _, _, hc => by simp [ckL] at hc
  | .dic _ _, _, _, _, _, hc => by simp [ckL] at hc
  | .bin _ _ _, _, _, _, _, hc => by simp [ckL] at hc
  | .neg _, _, _, _, _, hc => by simp [ckL] at hc
  | .not _, _, _, _, _, hc => by simp [ckL] at hc
  | .and _ _, _, _, _, _, hc => by simp [ckL] at hc
  | .or _ _, _, _, _, _, hc => by simp [ckL] at hc
  | .ite _ _ _, _, _, _, _, hc => by simp [ckL] at hc
  | .cmp _ _ _, _, _, _, _, hc => by simp [ckL] at hc
  | .chn _ _ _ _ _, _, _, _, _, hc => by simp [ckL] at hc
  | .call _ _, _, _, _, _, hc => by simp [ckL] at hc
  | .callk _ _ _, _, _, _, _, hc => by simp [ckL] at hc
  | .take _ _, _, _, _, _, hc => by simp [ckL] at hc
  | .blt _ _, _, _, _, _, hc => by simp [ckL] at hc
  | .met _ _ _, _, _, _, _, hc => by simp [ckL] at hc
  | .sub _ _, _, _, _, _, hc => by simp [ckL] at hc
  | .slc _ _ _, _, _, _, _, hc => by simp [ckL] at hc
  | .comp _ _ _ _ _ _, _, _, _, _, hc => by simp [ckL] at hc
  | .dcomp _ _ _ _ _ _, _, _, _, _, hc => by simp [ckL] at hc
theorem kws_ok : ∀ (es : E) (Γ : Cc) (X : Cx), EnvOk c o G φ k Γ X → ∀ (kws : List Keyword) (ks : List Str) (exs : List Expr), kwNames kws = some (ks, exs) → ckL es Γ exs = true → ∀ (σ : Sl) (h : Hist) (xs : List Og.Arg) (h' : Hist), evs o G φ es σ h = .ok xs h' → ∀ A, PK X kws (tEvs c A σ h xs h')
  | .nil, Γ, X, E, kws, ks, exs, hk, hc => by
    intro σ h xs h' e A
    simp only [ckL] at hc
    simp only [evs] at e
    cases e
    cases exs with
    | cons _ _ => cases hc
    | nil =>
      have : kws = [] := kwn_nil hk
      subst this
      exact PK.mono pk_nil fun σV H Q ⟨_, w, q⟩ => q [] H .refl w .nil
  | .cons a b, Γ, X, E, kws, ks, exs, hk, hc => by
    intro σ h xs h' e A
    simp only [ckL] at hc
    cases exs with
    | nil => cases hc
    | cons x r =>
      simp only [Bool.and_eq_true] at hc
      obtain ⟨hs, hca, hcb⟩ := hc
      obtain ⟨n, p, kws', ks', rfl, hk'⟩ := kwn_cons hk
      simp only [evs] at e
      split at e
      · rename_i hbx
        split at e
        · rename_i ys h1 e1
          cases e
          obtain ⟨i, rfl, hgs⟩ := boxAt_var hbx
          simp only [ck] at hca
          split at hca
          rotate_left
          · cases hca
          simp only [Bool.and_eq_true] at hca
          refine PK.mono (pk_cons (e_box (c := c) (A := A) (h := h) (by rw [E.N]; exact eqO_iff hca.1) (by rw [E.sc]; exact visB_ok hca.2.1) (dbg1 hca.2.2) (dbg2 hca.2.2) hgs) (kws_ok b Γ X E _ _ _ hk' hcb _ _ _ _ e1 A)) fun σV H Q ⟨s, w, q⟩ => ?_
          exact ⟨s, w, fun v r1 => ⟨s, w, fun vs H2 k2 w2 r2 => q _ _ k2 w2 (.cons r1 r2)⟩⟩
        · cases e
      · split at e
        · rename_i x1 f1 h1 e1
          split at e
          · rename_i ys h2 e2
            cases e
            refine PK.mono (pk_cons ((ev_ok a Γ X E _ hca false _ _ _ _ _ e1 A).1 rfl) (kws_ok b Γ X E _ _ _ hk' hcb _ _ _ _ e2 A)) fun σV H Q ⟨s, w, q⟩ => ?_
            exact ⟨s, w, fun v H1 k1 w1 r1 => ⟨s.keep w.bin k1, w1, fun vs H2 k2 w2 r2 => q _ _ (k1.trans k2) w2 (.cons (r1.arg.keep w.bin k2) r2)⟩⟩
          · cases e
        · cases e
  | .bad, _, _, _, _, _, _, _, hc => by simp [ckL] at hc
  | .var _, _, _, _, _, _, _, _, hc => by simp [ckL] at hc
  | .int _, _, _, _, _, _, _, _, hc => by simp [ckL] at hc
  | .str _, _, _, _, _, _, _, _, hc => by simp [ckL] at hc
  | .bl _, _, _, _, _, _, _, _, hc => by simp [ckL] at hc
  | .non, _, _, _, _, _, _, _, hc => by simp [ckL] at hc
  | .glo _, _, _, _, _, _, _, _, hc => by simp [ckL] at hc
  | .tup _, _, _, _, _, _, _, _, hc => by simp [ckL] at hc
  | .lst _, _, _, _, _, _, _, _, hc => by simp [ckL] at hc
  | .dic _ _, _, _, _, _, _, _, _, hc => by simp [ckL] at hc
  | .bin _ _ _, _, _, _, _, _, _, _, hc => by simp [ckL] at hc
  | .neg _, _, _, _, _, _, _, _, hc => by simp [ckL] at hc
  | .not _, _, _, _, _, _, _, _, hc => by simp [ckL] at hc
  | .and _ _, _, _, _, _, _, _, _, hc => by simp [ckL] at hc
  | .or _ _, _, _, _, _, _, _, _, hc => by simp [ckL] at hc
  | .ite _ _ _, _, _, _, _, _, _, _, hc => by simp [ckL] at hc
  | .cmp _ _ _, _, _, _, _, _, _, _, hc => by simp [ckL] at hc
  | .chn _ _ _ _ _, _, _, _, _, _, _, _, hc => by simp [ckL] at hc
  | .call _ _, _, _, _, _, _, _, _, hc => by simp [ckL] at hc
  | .callk _ _ _, _, _, _, _, _, _, _, hc => by simp [ckL] at hc
  | .take _ _, _, _, _, _, _, _, _, hc => by simp [ckL] at hc
  | .blt _ _, _, _, _, _, _, _, _, hc => by simp [ckL] at hc
  | .met _ _ _, _, _, _, _, _, _, _, hc => by simp [ckL] at hc
  | .sub _ _, _, _, _, _, _, _, _, hc => by simp [ckL] at hc
  | .slc _ _ _, _, _, _, _, _, _, _, hc => by simp [ckL] at hc
  | .comp _ _ _ _ _ _, _, _, _, _, _, _, _, hc => by simp [ckL] at hc
  | .dcomp _ _ _ _ _ _, _, _, _, _, _, _, _, hc => by simp [ckL] at hc
theorem one_ok : ∀ (es : E) (Γ : Cc) (X : Cx), EnvOk c o G φ k Γ X → ∀ (ex : Expr), ckL es Γ [ex] = true → ∀ (σ : Sl) (h : Hist) (x : D) (f : Fl) (h' : Hist), evs o G φ es σ h = .ok [.d x f] h' → ∀ A, PE X ex (tEv c A σ h x f h')
  | .nil, Γ, X, E, ex, hc => by simp [ckL] at hc
  | .cons a b, Γ, X, E, ex, hc => by
    intro σ h x f h' e A
    simp only [ckL, Bool.and_eq_true] at hc
    obtain ⟨hs, hca, hcb⟩ := hc
    simp only [evs] at e
    split at e
    · split at e
      · cases e
      · cases e
    · split at e
      · rename_i x1 f1 h1 e1
        split at e
        · rename_i ys h2 e2
          cases e
          have := nil_h hcb e2
          subst this
          exact (ev_ok a Γ X E _ hca false _ _ _ _ _ e1 A).1 rfl
        · cases e
      · cases e
  | .bad, _, _, _, _, hc => by simp [ckL] at hc
  | .var _, _, _, _, _, hc => by simp [ckL] at hc
  | .int _, _, _, _, _, hc => by simp [ckL] at hc
  | .str _, _, _, _, _, hc => by simp [ckL] at hc
  | .bl _, _, _, _, _, hc => by simp [ckL] at hc
  | .non, _, _, _, _, hc => by simp [ckL] at hc
  | .glo _, _, _, _, _, hc => by simp [ckL] at hc
  | .tup _, _, _, _, _, hc => by simp [ckL] at hc
  | .lst _, _, _, _, _, hc => by simp [ckL] at hc
  | .dic _ _, _, _, _, _, hc => by simp [ckL] at hc
  | .bin _ _ _, _, _, _, _, hc => by simp [ckL] at hc
  | .neg _, _, _, _, _, hc => by simp [ckL] at hc
  | .not _, _, _, _, _, hc => by simp [ckL] at hc
  | .and _ _, _, _, _, _, hc => by simp [ckL] at hc
  | .or _ _, _, _, _, _, hc => by simp [ckL] at hc
  | .ite _ _ _, _, _, _, _, hc => by simp [ckL] at hc
  | .cmp _ _ _, _, _, _, _, hc => by simp [ckL] at hc
  | .chn _ _ _ _ _, _, _, _, _, hc => by simp [ckL] at hc
  | .call _ _, _, _, _, _, hc => by simp [ckL] at hc
  | .callk _ _ _, _, _, _, _, hc => by simp [ckL] at hc
  | .take _ _, _, _, _, _, hc => by simp [ckL] at hc
  | .blt _ _, _, _, _, _, hc => by simp [ckL] at hc
  | .met _ _ _, _, _, _, _, hc => by simp [ckL] at hc
  | .sub _ _, _, _, _, _, hc => by simp [ckL] at hc
  | .slc _ _ _, _, _, _, _, hc => by simp [ckL] at hc
  | .comp _ _ _ _ _ _, _, _, _, _, hc => by simp [ckL] at hc
  | .dcomp _ _ _ _ _ _, _, _, _, _, hc => by simp [ckL] at hc
theorem two_ok : ∀ (es : E) (Γ : Cc) (X : Cx), EnvOk c o G φ k Γ X → ∀ (e1 e2 : Expr), ckL es Γ [e1, e2] = true → ∀ (σ : Sl) (h : Hist) (x : D) (f : Fl) (y : D) (g : Fl) (h' : Hist), evs o G φ es σ h = .ok [.d x f, .d y g] h' → ∀ A, ∃ h1, PE X e1 (tEv c A σ h x f h1) ∧ PE X e2 (tEv c A σ h1 y g h')
  | .nil, Γ, X, E, e1, e2, hc => by simp [ckL] at hc
  | .cons a b, Γ, X, E, e1, e2, hc => by
    intro σ h x f y g h' e A
    rw [ckL] at hc
    simp only [Bool.and_eq_true] at hc
    obtain ⟨hs, hca, hcb⟩ := hc
    simp only [evs] at e
    split at e
    · split at e
      · cases e
      · cases e
    · split at e
      · rename_i x1 f1 h1 e1
        split at e
        · rename_i ys h2 e2
          cases e
          exact ⟨_, (ev_ok a Γ X E _ hca false _ _ _ _ _ e1 A).1 rfl, one_ok b Γ X E _ hcb _ _ _ _ _ e2 A⟩
        · cases e
      · cases e
  | .bad, _, _, _, _, _, hc => by simp [ckL] at hc
  | .var _, _, _, _, _, _, hc => by simp [ckL] at hc
  | .int _, _, _, _, _, _, hc => by simp [ckL] at hc
  | .str _, _, _, _, _, _, hc => by simp [ckL] at hc
  | .bl _, _, _, _, _, _, hc => by simp [ckL] at hc
  | .non, _, _, _, _, _, hc => by simp [ckL] at hc
  | .glo _, _, _, _, _, _, hc => by simp [ckL] at hc
  | .tup _, _, _, _, _, _, hc => by simp [ckL] at hc
  | .lst _, _, _, _, _, _, hc => by simp [ckL] at hc
  | .dic _ _, _, _, _, _, _, hc => by simp [ckL] at hc
  | .bin _ _ _, _, _, _, _, _, hc => by simp [ckL] at hc
  | .neg _, _, _, _, _, _, hc => by simp [ckL] at hc
  | .not _, _, _, _, _, _, hc => by simp [ckL] at hc
  | .and _ _, _, _, _, _, _, hc => by simp [ckL] at hc
  | .or _ _, _, _, _, _, _, hc => by simp [ckL] at hc
  | .ite _ _ _, _, _, _, _, _, hc => by simp [ckL] at hc
  | .cmp _ _ _, _, _, _, _, _, hc => by simp [ckL] at hc
  | .chn _ _ _ _ _, _, _, _, _, _, hc => by simp [ckL] at hc
  | .call _ _, _, _, _, _, _, hc => by simp [ckL] at hc
  | .callk _ _ _, _, _, _, _, _, hc => by simp [ckL] at hc
  | .take _ _, _, _, _, _, _, hc => by simp [ckL] at hc
  | .blt _ _, _, _, _, _, _, hc => by simp [ckL] at hc
  | .met _ _ _, _, _, _, _, _, hc => by simp [ckL] at hc
  | .sub _ _, _, _, _, _, _, hc => by simp [ckL] at hc
  | .slc _ _ _, _, _, _, _, _, hc => by simp [ckL] at hc
  | .comp _ _ _ _ _ _, _, _, _, _, _, hc => by simp [ckL] at hc
  | .dcomp _ _ _ _ _ _, _, _, _, _, _, hc => by simp [ckL] at hc
theorem opt_ok : ∀ (es : E) (Γ : Cc) (X : Cx), EnvOk c o G φ k Γ X → ∀ (l : Option Expr), ckL es Γ (optL l) = true → ∀ (σ : Sl) (h : Hist) (as : List Og.Arg) (h' : Hist), evs o G φ es σ h = .ok as h' → ∀ (u : Option Int), oi as = some u → ∀ A, PO X l (tOi c A σ h u h')
  | .nil, Γ, X, E, l, hc => by
    intro σ h as h' e u hu A
    simp only [evs] at e
    cases e
    cases l with
    | some _ => simp [ckL, optL] at hc
    | none => simp only [oi] at hu; cases hu; exact o_none
  | .cons a b, Γ, X, E, l, hc => by
    intro σ h as h' e u hu A
    cases l with
    | none => simp [ckL, optL] at hc
    | some ex =>
      rw [optL, ckL] at hc
      simp only [Bool.and_eq_true] at hc
      obtain ⟨hs, hca, hcb⟩ := hc
      simp only [evs] at e
      split at e
      · split at e
        · rename_i ys h1 e1
          cases e
          simp [oi] at hu
        · cases e
      · split at e
        · rename_i x1 f1 h1 e1
          split at e
          · rename_i ys h2 e2
            cases e
            have e3 := nil_h hcb e2
            subst e3
            have := nil_e hcb e2
            subst this
            cases x1 <;> simp only [oi] at hu <;> try (cases hu; done)
            cases hu
            exact o_some ((ev_ok a Γ X E _ hca false _ _ _ _ _ e1 A).1 rfl)
          · cases e
        · cases e
  | .bad, _, _, _, _, hc => by simp [ckL] at hc
  | .var _, _, _, _, _, hc => by simp [ckL] at hc
  | .int _, _, _, _, _, hc => by simp [ckL] at hc
  | .str _, _, _, _, _, hc => by simp [ckL] at hc
  | .bl _, _, _, _, _, hc => by simp [ckL] at hc
  | .non, _, _, _, _, hc => by simp [ckL] at hc
  | .glo _, _, _, _, _, hc => by simp [ckL] at hc
  | .tup _, _, _, _, _, hc => by simp [ckL] at hc
  | .lst _, _, _, _, _, hc => by simp [ckL] at hc
  | .dic _ _, _, _, _, _, hc => by simp [ckL] at hc
  | .bin _ _ _, _, _, _, _, hc => by simp [ckL] at hc
  | .neg _, _, _, _, _, hc => by simp [ckL] at hc
  | .not _, _, _, _, _, hc => by simp [ckL] at hc
  | .and _ _, _, _, _, _, hc => by simp [ckL] at hc
  | .or _ _, _, _, _, _, hc => by simp [ckL] at hc
  | .ite _ _ _, _, _, _, _, hc => by simp [ckL] at hc
  | .cmp _ _ _, _, _, _, _, hc => by simp [ckL] at hc
  | .chn _ _ _ _ _, _, _, _, _, hc => by simp [ckL] at hc
  | .call _ _, _, _, _, _, hc => by simp [ckL] at hc
  | .callk _ _ _, _, _, _, _, hc => by simp [ckL] at hc
  | .take _ _, _, _, _, _, hc => by simp [ckL] at hc
  | .blt _ _, _, _, _, _, hc => by simp [ckL] at hc
  | .met _ _ _, _, _, _, _, hc => by simp [ckL] at hc
  | .sub _ _, _, _, _, _, hc => by simp [ckL] at hc
  | .slc _ _ _, _, _, _, _, hc => by simp [ckL] at hc
  | .comp _ _ _ _ _ _, _, _, _, _, hc => by simp [ckL] at hc
  | .dcomp _ _ _ _ _ _, _, _, _, _, hc => by simp [ckL] at hc
theorem ifs_ok : ∀ (es : E) (Γ : Cc) (X : Cx), EnvOk c o G φ k Γ X → ∀ (exs : List Expr), ckL es Γ exs = true → exs.length ≤ 1 → PTs X exs (gTs c (tsts o G φ es))
  | .nil, Γ, X, E, exs, hc => by
    intro hl
    cases exs with
    | cons _ _ => simp [ckL] at hc
    | nil =>
      refine ⟨fun pins s σV H Q I ⟨A, σ, h, b, f, h', e, _, w, q⟩ => pts_nil.run pins s σV H Q I ?_⟩
      simp only [tsts] at e
      cases e
      exact q H .refl w
  | .cons a b, Γ, X, E, exs, hc => by
    intro hl
    cases exs with
    | nil => simp [ckL] at hc
    | cons ex r =>
      have hr : r = [] := List.eq_nil_of_length_eq_zero (by simp at hl; simpa using hl)
      subst hr
      rw [ckL] at hc
      simp only [Bool.and_eq_true] at hc
      obtain ⟨hs, hca, hcb⟩ := hc
      have hb := nil_of hcb
      refine ⟨fun pins s σV H Q I ⟨A, σ, h, b1, f, h', e, t⟩ => (pts_one (t := tTs c A σ h b1 h') ?_).run pins s σV H Q I t⟩
      simp only [tsts] at e
      split at e
      · rename_i f1 h1 e1
        rw [hb] at e
        simp only [tsts] at e
        cases e
        obtain ⟨b2, q2, p2⟩ := (ev_ok a Γ X E _ hca true _ _ _ _ _ e1 A).2 rfl
        cases q2
        exact p2
      · rename_i f1 h1 e1
        cases e
        obtain ⟨b2, q2, p2⟩ := (ev_ok a Γ X E _ hca true _ _ _ _ _ e1 A).2 rfl
        cases q2
        exact p2
      · cases e
  | .bad, _, _, _, _, hc => by simp [ckL] at hc
  | .var _, _, _, _, _, hc => by simp [ckL] at hc
  | .int _, _, _, _, _, hc => by simp [ckL] at hc
  | .str _, _, _, _, _, hc => by simp [ckL] at hc
  | .bl _, _, _, _, _, hc => by simp [ckL] at hc
  | .non, _, _, _, _, hc => by simp [ckL] at hc
  | .glo _, _, _, _, _, hc => by simp [ckL] at hc
  | .tup _, _, _, _, _, hc => by simp [ckL] at hc
  | .lst _, _, _, _, _, hc => by simp [ckL] at hc
  | .dic _ _, _, _, _, _, hc => by simp [ckL] at hc
  | .bin _ _ _, _, _, _, _, hc => by simp [ckL] at hc
  | .neg _, _, _, _, _, hc => by simp [ckL] at hc
  | .not _, _, _, _, _, hc => by simp [ckL] at hc
  | .and _ _, _, _, _, _, hc => by simp [ckL] at hc
  | .or _ _, _, _, _, _, hc => by simp [ckL] at hc
  | .ite _ _ _, _, _, _, _, hc => by simp [ckL] at hc
  | .cmp _ _ _, _, _, _, _, hc => by simp [ckL] at hc
  | .chn _ _ _ _ _, _, _, _, _, hc => by simp [ckL] at hc
  | .call _ _, _, _, _, _, hc => by simp [ckL] at hc
  | .callk _ _ _, _, _, _, _, hc => by simp [ckL] at hc
  | .take _ _, _, _, _, _, hc => by simp [ckL] at hc
  | .blt _ _, _, _, _, _, hc => by simp [ckL] at hc
  | .met _ _ _, _, _, _, _, hc => by simp [ckL] at hc
  | .sub _ _, _, _, _, _, hc => by simp [ckL] at hc
  | .slc _ _ _, _, _, _, _, hc => by simp [ckL] at hc
  | .comp _ _ _ _ _ _, _, _, _, _, hc => by simp [ckL] at hc
  | .dcomp _ _ _ _ _ _, _, _, _, _, hc => by simp [ckL] at hc
end
end
end Og

end
section
set_option Elab.async false
set_option linter.all false
set_option maxRecDepth 100000
/-! Statements: what holds along a def's body. -/
namespace L2
open PySem
theorem PS.mono {X : Cx} {e : Stmt} {t t' : TS} (h : PS X e t) (i : ∀ D σ H, t' D σ H → t D σ H) : PS X e t' := ⟨fun pins s σ H D I q => h.run pins s σ H D I (i _ _ _ q)⟩
theorem PSs.mono {X : Cx} {e : List Stmt} {t t' : TS} (h : PSs X e t) (i : ∀ D σ H, t' D σ H → t D σ H) : PSs X e t' := ⟨fun pins s σ H D I q => h.run pins s σ H D I (i _ _ _ q)⟩
end L2
namespace Og
open PySem PySem.Spec PyProof.Rows L2
section
variable {A A' A'' : List Addr} {H H' H'' : Hp}
theorem Al.refl : Al A A H H := ⟨fun a z => .inl z, fun _ _ _ e => e⟩
theorem Al.trans (a : Al A A' H H') (b : Al A' A'' H' H'') : Al A A'' H H'' := by
  refine ⟨fun x hx => ?_, fun x u n e => b.2 x u (a.out n e) (a.2 x u n e)⟩
  rcases b.1 x hx with z | z
  · exact a.1 x z
  · by_cases n : x ∈ A
    · exact .inl n
    · cases e : H x with
      | none => exact .inr rfl
      | some u => rw [a.2 x u n e] at z; cases z
theorem Al.kp {bx : Option Addr} (b : Bin bx A) (k : Kp bx H H') : Al A A H H' := ⟨fun a z => .inl z, fun a u n e => k a u (b.ne n) e⟩
end
/-- what holds at each point of a body: H0, A0 at the def's entry -/
structure Iv (c : Cf) (H0 : Hp) (A0 A : List Addr) (σ : Sl) (h : Hist) (σV : L2.St) (H : Hp) : Prop where
  ss : SsR c H A σ σV
  wd : Wd c H A h
  kp : Kp c.bx H0 H
  sub : ∀ a ∈ A, a ∈ A0 ∨ H0 a = none
  sup : ∀ a ∈ A0, a ∈ A
  b0 : Bin c.bx A0
  own : ∀ i x a, getS σ i = some (.own x) → σV[i]? = some (some (.ref a)) → H0 a = none ∧ a ∉ A0
section
variable {c : Cf} {H0 H H' : Hp} {A0 A : List Addr} {σ : Sl} {h h' : Hist} {σV : L2.St}
theorem Iv.keep (iv : Iv c H0 A0 A σ h σV H) (k : Kp c.bx H H') (w : Wd c H' A h') : Iv c H0 A0 A σ h' σV H' :=
  ⟨iv.ss.keep iv.wd.bin k, w, iv.kp.trans k, iv.sub, iv.sup, iv.b0, iv.own⟩
theorem Iv.ext (iv : Iv c H0 A0 A σ h σV H) (k : ∀ a u, H a = some u → H' a = some u) : Iv c H0 A0 A σ h σV H' :=
  iv.keep (fun a u _ e => k a u e) (iv.wd.same k)
theorem asg_own : ∀ {tg : Tg} {y : D} {σ σ' : Sl} {j : Nat} {x : D}, asgT tg y σ = some σ' → getS σ' j = some (.own x) → j ∉ slotsT tg ∧ getS σ j = some (.own x)
  | .nm i, y, σ, σ', j, x, e, g => by
    simp only [asgT] at e; cases e
    rcases getS_set g with ⟨rfl, q⟩ | ⟨n, q⟩
    · cases q
    · exact ⟨by simp [slotsT, n], q⟩
  | .nil, y, σ, σ', j, x, e, g => by
    simp only [asgT] at e; split at e
    · cases e; exact ⟨by simp [slotsT], g⟩
    · cases e
  | .cons a b, y, σ, σ', j, x, e, g => by
    simp only [asgT] at e
    split at e
    · split at e
      · rename_i e1
        obtain ⟨n2, g2⟩ := asg_own e g
        obtain ⟨n1, g1⟩ := asg_own e1 g2
        exact ⟨by simp only [slotsT, List.mem_append, not_or]; exact ⟨n1, n2⟩, g1⟩
      · cases e
    · split at e
      · rename_i e1
        obtain ⟨n2, g2⟩ := asg_own e g
        obtain ⟨n1, g1⟩ := asg_own e1 g2
        exact ⟨by simp only [slotsT, List.mem_append, not_or]; exact ⟨n1, n2⟩, g1⟩
      · cases e
    · cases e
theorem Iv.asg {tg : Tg} {y : D} {σ' : Sl} {σV' : L2.St} (iv : Iv c H0 A0 A σ h σV H) (e : asgT tg y σ = some σ') (s : SsR c H A σ' σV') (ho : ∀ j, j ∉ slotsT tg → σV'[j]? = σV[j]?) : Iv c H0 A0 A σ' h σV' H := by
  refine ⟨s, iv.wd, iv.kp, iv.sub, iv.sup, iv.b0, fun i x a g ga => ?_⟩
  obtain ⟨n, g1⟩ := asg_own e g
  rw [ho i n] at ga
  exact iv.own i x a g1 ga
theorem Iv.setD {i : Nat} {x : D} {v : V} (iv : Iv c H0 A0 A σ h σV H) (r : Rv c H A v x) : Iv c H0 A0 A (setS σ i (some (.d x))) h (σV.set i (some v)) H := by
  refine ⟨iv.ss.setD r, iv.wd, iv.kp, iv.sub, iv.sup, iv.b0, fun j y a g ga => ?_⟩
  rcases getS_set g with ⟨rfl, q⟩ | ⟨n, q⟩
  · cases q
  · rw [List.getElem?_set_ne (Ne.symm n)] at ga
    exact iv.own j y a q ga
/-- a new list or dict of one's own -/
theorem Iv.setOwn {i : Nat} {x : D} {v : V} (iv : Iv c H0 A0 A σ h σV H) (k : Kp c.bx H H') (w : Wd c H' A h') (r : Vl c A H H' v x .fr) :
    ∃ a, v = .ref a ∧ Iv c H0 A0 (a :: A) (setS σ i (some (.own x))) h' (σV.set i (some v)) H' ∧ Al A (a :: A) H H' := by
  obtain ⟨a, rfl, hn, na, ow⟩ := r
  have nb : some a ≠ c.bx := iv.wd.bin.ne na
  have bA : Bin c.bx (a :: A) := fun b e => List.mem_cons_of_mem _ (iv.wd.bin b e)
  have ss := (iv.ss.more hn).keep bA k
  refine ⟨a, rfl, ⟨⟨by rw [setS_eq]; simpa using ss.len, fun j t e => ?_, fun j l y z b e1 e2 h1 h2 => ?_⟩, ⟨fun b hb => ?_, bA, w.box⟩, iv.kp.trans k, fun b hb => ?_, fun b hb => List.mem_cons_of_mem _ (iv.sup b hb), iv.b0, fun j y b g gb => ?_⟩, ⟨fun b hb => ?_, fun b u n e => k b u (iv.wd.bin.ne n) e⟩⟩
  · rcases getS_set e with ⟨rfl, q⟩ | ⟨n, q⟩
    · cases q
      have := getS_setl e
      exact ⟨_, List.getElem?_set_self (by rw [← iv.ss.len]; exact this), a, rfl, nb, List.mem_cons_self .., ow⟩
    · obtain ⟨u, h1, h2⟩ := ss.at_ j t q
      exact ⟨u, by rw [List.getElem?_set_ne (Ne.symm n)]; exact h1, h2⟩
  · have key : ∀ {j : Nat} {y : D}, getS σ j = some (.own y) → σV[j]? = some (some (.ref a)) → False := fun {j y} g ga => by
      obtain ⟨u, h1, a', e', _, m, _⟩ := iv.ss.at_ j _ g
      rw [ga] at h1
      cases h1
      cases e'
      exact na m
    rcases getS_set e1 with ⟨rfl, q⟩ | ⟨n, q⟩
    · rcases getS_set e2 with ⟨rfl, q2⟩ | ⟨n2, q2⟩
      · rfl
      · rw [List.getElem?_set_ne (Ne.symm n2)] at h2
        have := getS_setl e1
        rw [List.getElem?_set_self (by rw [← iv.ss.len]; exact this)] at h1
        cases h1
        exact (key q2 h2).elim
    · rcases getS_set e2 with ⟨rfl, q2⟩ | ⟨n2, q2⟩
      · rw [List.getElem?_set_ne (Ne.symm n)] at h1
        have := getS_setl e2
        rw [List.getElem?_set_self (by rw [← iv.ss.len]; exact this)] at h2
        cases h2
        exact (key q h1).elim
      · rw [List.getElem?_set_ne (Ne.symm n)] at h1
        rw [List.getElem?_set_ne (Ne.symm n2)] at h2
        exact iv.ss.ap j l y z b q q2 h1 h2
  · rcases List.mem_cons.mp hb with z | z
    · subst z; exact ow.some
    · exact w.dom b z
  · rcases List.mem_cons.mp hb with z | z
    · subst z; exact .inr (iv.kp.none nb hn)
    · exact iv.sub b z
  · rcases getS_set g with ⟨rfl, q⟩ | ⟨n, q⟩
    · have := getS_setl g
      rw [List.getElem?_set_self (by rw [← iv.ss.len]; exact this)] at gb
      cases gb
      exact ⟨iv.kp.none nb hn, fun z => na (iv.sup _ z)⟩
    · rw [List.getElem?_set_ne (Ne.symm n)] at gb
      exact iv.own j y b q gb
  · rcases List.mem_cons.mp hb with z | z
    · subst z; exact .inr hn
    · exact .inl z
/-- what is one's own is given away -/
theorem Iv.frz {i : Nat} {x : D} (iv : Iv c H0 A0 A σ h σV H) (g : getS σ i = some (.own x)) : ∃ A', Iv c H0 A0 A' (setS σ i (some (.d x))) h σV H ∧ Al A A' H H := by
  obtain ⟨v, hv, a, rfl, nb, ma, ow⟩ := iv.ss.at_ i _ g
  obtain ⟨ho, na0⟩ := iv.own i x a g hv
  have mem : ∀ b, b ∈ A.filter (fun b => decide (b ≠ a)) ↔ b ∈ A ∧ b ≠ a := fun b => by simp [List.mem_filter]
  have sb : ∀ b, b ∈ A.filter (fun b => decide (b ≠ a)) → b ∈ A := fun b z => ((mem b).mp z).1
  refine ⟨A.filter (fun b => decide (b ≠ a)), ⟨⟨by rw [setS_eq]; simpa using iv.ss.len, fun j t e => ?_, fun j l y z b e1 e2 h1 h2 => ?_⟩, ⟨fun b hb => iv.wd.dom b (sb b hb), fun b e => (mem b).mpr ⟨iv.wd.bin b e, fun z => nb (by rw [← z]; exact e.symm)⟩, iv.wd.box⟩, iv.kp, fun b hb => iv.sub b (sb b hb), fun b hb => (mem b).mpr ⟨iv.sup b hb, fun z => na0 (by rw [← z]; exact hb)⟩, iv.b0, fun j y b e eb => ?_⟩, ⟨fun b hb => .inl (sb b hb), fun _ _ _ e => e⟩⟩
  · rcases getS_set e with ⟨rfl, q⟩ | ⟨n, q⟩
    · cases q
      exact ⟨_, hv, (ow.sub sb).rv (fun z => ((mem a).mp z).2 rfl)⟩
    · obtain ⟨u, h1, h2⟩ := iv.ss.at_ j t q
      refine ⟨u, h1, ?_⟩
      cases t with
      | d y => exact Rv.sub sb h2
      | own y =>
        obtain ⟨b, rfl, nb', mb, ob⟩ := h2
        refine ⟨b, rfl, nb', (mem b).mpr ⟨mb, fun z => ?_⟩, ob.sub sb⟩
        subst z
        exact n (iv.ss.ap j i y x b q g h1 hv)
      | box => exact h2
  · rcases getS_set e1 with ⟨rfl, q⟩ | ⟨n, q⟩
    · cases q
    · rcases getS_set e2 with ⟨rfl, q2⟩ | ⟨n2, q2⟩
      · cases q2
      · exact iv.ss.ap j l y z b q q2 h1 h2
  · rcases getS_set e with ⟨rfl, q⟩ | ⟨n, q⟩
    · cases q
    · exact iv.own j y b q eb
/-- what is one's own is written -/
theorem Iv.write {i : Nat} {x x' : D} {a : Addr} {o : HO} (iv : Iv c H0 A0 A σ h σV H) (g : getS σ i = some (.own x)) (hv : σV[i]? = some (some (.ref a))) (ow : Ow c (upd H a o) A a x') :
    Iv c H0 A0 A (setS σ i (some (.own x'))) h σV (upd H a o) ∧ Al A A H (upd H a o) := by
  obtain ⟨v, hv', a', rfl, nb, ma, _⟩ := iv.ss.at_ i _ g
  rw [hv] at hv'; cases hv'
  obtain ⟨ho, na0⟩ := iv.own i x a g hv
  have al : Al A A H (upd H a o) := al_write ma
  refine ⟨⟨⟨by rw [setS_eq]; simpa using iv.ss.len, fun j t e => ?_, fun j l y z b e1 e2 h1 h2 => ?_⟩, iv.wd.write nb, iv.kp.wr ho, iv.sub, iv.sup, iv.b0, fun j y b e eb => ?_⟩, al⟩
  · rcases getS_set e with ⟨rfl, q⟩ | ⟨n, q⟩
    · cases q
      exact ⟨_, hv, a, rfl, nb, ma, ow⟩
    · obtain ⟨u, h1, h2⟩ := iv.ss.at_ j t q
      refine ⟨u, h1, ?_⟩
      cases t with
      | d y => exact Rv.step al h2
      | own y =>
        obtain ⟨b, rfl, nb', mb, ob⟩ := h2
        have nba : b ≠ a := fun z => by
          subst z
          exact n (iv.ss.ap j i y x b q g h1 hv)
        refine ⟨b, rfl, nb', mb, ?_⟩
        cases ob with
        | lst e4 r4 => exact .lst (by rw [upd_ne nba]; exact e4) (r4.step al)
        | dK e4 q4 r4 => exact .dK (by rw [upd_ne nba]; exact e4) q4 (r4.step al)
        | dT e4 q4 r4 => exact .dT (by rw [upd_ne nba]; exact e4) q4 (r4.step al)
      | box => exact h2
  · have own1 : ∀ {j : Nat} {y : D}, getS (setS σ i (some (.own x'))) j = some (.own y) → ∃ y', getS σ j = some (.own y') := fun {j y} e => by
      rcases getS_set e with ⟨rfl, q⟩ | ⟨n, q⟩
      · exact ⟨x, g⟩
      · exact ⟨y, q⟩
    obtain ⟨y1, q1⟩ := own1 e1
    obtain ⟨y2, q2⟩ := own1 e2
    exact iv.ss.ap j l y1 y2 b q1 q2 h1 h2
  · rcases getS_set e with ⟨rfl, q⟩ | ⟨n, q⟩
    · rw [hv] at eb; cases eb; exact ⟨ho, na0⟩
    · exact iv.own j y b q eb
end
/-- how it ends -/
def Oc (c : Cf) (H0 : Hp) (A0 A : List Addr) (H : Hp) (D : Ends) (K : L2.St → Hp → Prop) : Out → Prop
  | .nx σ h => ∀ A' σV H', Iv c H0 A0 A' σ h σV H' → Al A A' H H' → K σV H'
  | .bk σ h => ∀ A' σV H', Iv c H0 A0 A' σ h σV H' → Al A A' H H' → D.bk σV H'
  | .ct σ h => ∀ A' σV H', Iv c H0 A0 A' σ h σV H' → Al A A' H H' → D.ct σV H'
  | .ret x f h => ∀ v H', Kp c.bx H0 H' → Wd c H' A0 h → Vl c A0 H0 H' v x f → D.rt v H'
  | .no => False
theorem Oc.al {c : Cf} {H0 H H1 : Hp} {A0 A A1 : List Addr} {D : Ends} {K : L2.St → Hp → Prop} {r : Out} (a : Al A A1 H H1) (q : Oc c H0 A0 A H D K r) : Oc c H0 A0 A1 H1 D K r := by
  cases r with
  | nx σ h => exact fun A' σV H' iv al => q A' σV H' iv (a.trans al)
  | bk σ h => exact fun A' σV H' iv al => q A' σV H' iv (a.trans al)
  | ct σ h => exact fun A' σV H' iv al => q A' σV H' iv (a.trans al)
  | ret x f h => exact q
  | no => exact q
def tSt (c : Cf) (ex : Sl → Hist → Out) (u : TS) : TS := fun D σV H => ∃ H0 A0 A σ h, Iv c H0 A0 A σ h σV H ∧ Oc c H0 A0 A H D (u D) (ex σ h)
end Og

end
section
set_option Elab.async false
set_option linter.all false
set_option maxRecDepth 100000
/-! Statements: assignments. -/
namespace L2
open PySem PySem.Spec PyProof.Rows
/-- name = {.. for ..} on one line, the name a local -/
theorem ps_setDc {X : Cx} {i : Nat} {y : Str} {py : Pos} {kx vx tg iter : Expr} {ifs : List Expr} {scope : Scope} {own : List (Str × Nat)} {pos spos : Pos} {wi : TI} {g : TG} {tt : TT} {tk tv : TE} (hc : X.calm = true) (hN : X.N.Nodup) (hy : X.N[i]? = some y) (hyl : X.env.scope.names.lookup y = some .local)
    (hsw : swapsWith (.DictComp kx vx [⟨tg, iter, ifs, 0⟩] scope pos) (some (.Name y py)) spos.line X.env = pure true) (hi : PI X tg iter wi) (ok : BlkOk X.N X.env.scope scope own)
    (hg : ∀ (s : Shared) (H : Hp) (C : Addr) (cl : List (Str × Addr)) (fp : List Addr), PG (X.blk s H scope (compEnvC scope cl C X.env) fp) tg g) (ht : ∀ (s : Shared) (H : Hp) (C : Addr) (cl : List (Str × Addr)) (fp : List Addr), PTs (X.blk s H scope (compEnvC scope cl C X.env) fp) ifs tt)
    (hk : ∀ (s : Shared) (H : Hp) (C : Addr) (cl : List (Str × Addr)) (fp : List Addr), PE (X.blk s H scope (compEnvC scope cl C X.env) fp) kx tk)
    (he : ∀ (s : Shared) (H : Hp) (C : Addr) (cl : List (Str × Addr)) (fp : List Addr), PE (X.blk s H scope (compEnvC scope cl C X.env) fp) vx tv) (hs : ∀ x, foldedSetIterable iter X.env x = pure x) :
    PS X (.Assign [.Name y py] (.DictComp kx vx [⟨tg, iter, ifs, 0⟩] scope pos) spos) (tAsg (tDc wi g tt tk tv (own.map (·.2))) (gName i)) := by
  refine ⟨fun pins s σ H D I h => ?_⟩
  rw [exec_Assign_Name_used _ _ _ _ hsw]
  refine wpAny_bind (wpAny_standAt (wpAny_bind ?_))
  show wpAny _ X.A (do let _ ← comprehension (.DictComp kx vx [⟨tg, iter, ifs, 0⟩] scope pos) scope X.env (firstIterPos [⟨tg, iter, ifs, 0⟩] pos) newDict false (eval iter X.env) (some (assign (.Name y py) X.env))) _ _ s
  have h : tDc wi g tt tk tv (own.map (·.2)) σ H (fun x H1 => gName i x σ H1 D.nx) := h
  refine wpAny_bind (thn (dc_core (Qf := fun _ s' => SP X pins D .next s') hc hN I hi ok hg ht hk he hs h fun L C s' m H' I' q hn f => ?_) fun _ s' hq => wpAny_pure (wpAny_pure hq))
  show wpAny _ _ (assign (.Name y py) X.env (.ref L)) _ _ _
  refine wpAny_assign_Name (store_ok2 (v := V.ref L) I' hN hy (.inl hyl) rfl (fun s2 I2 ⟨a, sb, ha⟩ => ?_) (.inr hyl))
  obtain ⟨f0, f1, f2, f3, f4, f5⟩ := f
  have haC : C ≠ a := by
    rcases ha with z | z
    · rw [z]; exact f1
    · exact fun e => f4 y a z e.symm
  refine ⟨m, hn.sameBut sb haC, fun h3 sb3 => ?_⟩
  exact ⟨_, H', I2.turned (t' := s2.toks) (fun b o hb e => (sb3.2 b hb).trans e) f0 f1 f3 f4 f5, q⟩
end L2
namespace Og
open PySem PySem.Spec PyProof.Rows L2
def isComp : Expr → Bool
  | .ListComp _ _ _ _ => true
  | .SetComp _ _ _ _ => true
  | .DictComp _ _ _ _ _ => true
  | _ => false
def isCompE : E → Bool
  | .comp _ _ _ _ _ _ => true
  | .dcomp _ _ _ _ _ _ => true
  | _ => false
theorem sw_no {e : Expr} {t : Option Expr} {l : Nat} {env : Env} (h : isComp e = false) : swapsWith e t l env = pure false := by
  cases e <;> first | rfl | cases h
def swB (sc scope : Scope) (y : Str) (py pos : Pos) : Bool := lclB sc y && (py.line == pos.line && !(scope.names.any fun (n, k) => n == y && (k == .local || k == .cell)))
theorem lclB_eq {sc : Scope} {y : Str} : (sc.names.lookup y == some NameKind.local) = lclB sc y := by
  unfold lclB
  split
  · rename_i e; rw [e]; rfl
  · rename_i n
    cases e : sc.names.lookup y with
    | none => rfl
    | some k => cases k <;> first | rfl | exact absurd e n
theorem sw_list {elt : Expr} {gs : List Comprehension} {scope : Scope} {pos py : Pos} {y : Str} {l : Nat} {env : Env} (hk : env.scope.kind = .function) : swapsWith (.ListComp elt gs scope pos) (some (.Name y py)) l env = pure (swB env.scope scope y py pos) := by
  have hb : env.blockKind = .function := by unfold Env.blockKind; rw [hk]; rfl
  have ky : (env.kindOf y == some NameKind.local) = lclB env.scope y := lclB_eq
  unfold swapsWith swB
  simp only [hb, ky, Expr.pos]
  rw [Bool.and_assoc, show ((ScopeKind.function == ScopeKind.function) = true) from rfl, Bool.and_assoc, Bool.true_and]
theorem sw_dict {kx vx : Expr} {gs : List Comprehension} {scope : Scope} {pos py : Pos} {y : Str} {l : Nat} {env : Env} (hk : env.scope.kind = .function) : swapsWith (.DictComp kx vx gs scope pos) (some (.Name y py)) l env = pure (swB env.scope scope y py pos) := by
  have hb : env.blockKind = .function := by unfold Env.blockKind; rw [hk]; rfl
  have ky : (env.kindOf y == some NameKind.local) = lclB env.scope y := lclB_eq
  unfold swapsWith swB
  simp only [hb, ky, Expr.pos]
  rw [Bool.and_assoc, show ((ScopeKind.function == ScopeKind.function) = true) from rfl, Bool.and_assoc, Bool.true_and]
section
variable {c : Cf} {o : Hist → Int → Int} {G : List D} {φ : Nat → List Og.Arg → Hist → RE} {k : Nat} {Γ : Cc} {X : Cx} {A : List Addr} {σ : Sl} {h h' : Hist} {x : D} {f : Fl} {v : Expr}
/-- name = value, whatever the value -/
theorem s_name {e : E} {i : Nat} {y : Str} {py spos : Pos} (E : EnvOk c o G φ k Γ X) (hk : X.env.scope.kind = .function) (hb : Bin c.bx A) (hv : ck e Γ v = true) (hcE : isComp v = isCompE e) (he : ev o G φ e false σ h = .ok x f h')
    (hy : X.N[i]? = some y) (hl : L2.Loc X.env.scope y) (hf : X.fn y = true ∨ X.env.scope.names.lookup y = some .local) : PS X (.Assign [.Name y py] v spos) (tAsg (tEv c A σ h x f h') (gName i)) := by
  have nd : X.N.Nodup := by rw [E.N]; exact E.nd
  cases hcv : isComp v with
  | false => exact ps_set nd hy hl ((ev_ok e Γ X E _ hv false _ _ _ _ _ he A).1 rfl) (sw_no hcv) hf
  | true =>
    rw [hcv] at hcE
    cases e <;> simp only [isCompE] at hcE <;> try (cases hcE; done)
    · rename_i elt own tg kd its ifs
      have pe := (ev_ok _ Γ X E _ hv false _ _ _ _ _ he A).1 rfl
      simp only [ck] at hv
      split at hv
      rotate_left
      · cases hv
      rename_i elt' tg' iter ifs' scope p ec
      split at hv
      rotate_left
      · cases hv
      rename_i xs hi
      simp only [Bool.and_eq_true] at hv
      obtain ⟨hns, hblk, hsl, hits, htg, helt, hif1, hifs⟩ := hv
      rw [asComp_ok ec] at pe ⊢
      cases hsw : swB X.env.scope scope y py p with
      | false => exact ps_set nd hy hl pe (by rw [sw_list hk, hsw]) hf
      | true =>
        have hyl : X.env.scope.names.lookup y = some .local := by
          unfold swB at hsw
          simp only [Bool.and_eq_true] at hsw
          exact lclB_ok hsw.1
        simp only [ev, fin] at he
        split at he
        rotate_left
        · cases he
        rename_i as k1 ea
        split at he
        rotate_left
        · cases he
        rename_i l el
        split at he
        rotate_left
        · cases he
        rename_i ys k2 ew
        split at he
        rotate_left
        · cases he
        rename_i zs k3 ecl
        split at he
        rotate_left
        · cases he
        rename_i hz
        cases he
        have hlen := ckL_len hits ea
        have hown : ∀ j ∈ slotsT tg, j ∈ (ownOf Γ own).map (·.2) := by
          rw [ownOf_snd]
          intro j hj
          have := List.all_eq_true.mp hsl j hj
          simpa using this
        refine (ps_setLc (own := ownOf Γ own) E.calm nd hy hyl (by rw [sw_list hk, hsw]) (walk_ok E hi (ckL_star hits) hlen (syl_weak (evs_ok its Γ X E _ hits σ h as _ ea A) el) (fun e1 he d hd => ?_) (fun a z => hb a z) ew) (by rw [E.N, E.sc]; exact blk_ok hblk)
          (fun s H C cl fp => tg_ok (Γ := Γ.blk scope) (X := X.blk s H scope (compEnvC scope cl C X.env) fp) E.K E.calm E.nd E.N (E.blk s H scope C cl fp).sc rfl tg _ htg)
          (fun s H C cl fp => ifs_ok ifs (Γ.blk scope) _ (E.blk s H scope C cl fp) _ hifs (Nat.le_of_ble_eq_true hif1))
          (fun s H C cl fp => PE.gen fun A σ h x f h' e => (ev_ok elt (Γ.blk scope) _ (E.blk s H scope C cl fp) _ helt false σ h x f h' e A).1 rfl) (set_ok hns)).mono fun D σV H q => lc_read hown (by rw [ownOf_snd]; exact ecl) hz σV H _ q
        subst he
        subst hd
        obtain ⟨f1, has⟩ := weak1 el
        subst has
        exact sy1_weak (one_ok its Γ X E _ hits σ h d f1 k1 ea A)
    · rename_i key val own tg kd its
      have pe := (ev_ok _ Γ X E _ hv false _ _ _ _ _ he A).1 rfl
      simp only [ck] at hv
      split at hv
      rotate_left
      · cases hv
      rename_i key' val' tg' iter scope p ec
      split at hv
      rotate_left
      · cases hv
      rename_i xs hi
      simp only [Bool.and_eq_true] at hv
      obtain ⟨hns, hblk, hsl, hits, htg, hkey, hval⟩ := hv
      rw [asDcomp_ok ec] at pe ⊢
      cases hsw : swB X.env.scope scope y py p with
      | false => exact ps_set nd hy hl pe (by rw [sw_dict hk, hsw]) hf
      | true =>
        have hyl : X.env.scope.names.lookup y = some .local := by
          unfold swB at hsw
          simp only [Bool.and_eq_true] at hsw
          exact lclB_ok hsw.1
        simp only [ev, fin] at he
        split at he
        rotate_left
        · cases he
        rename_i as k1 ea
        split at he
        rotate_left
        · cases he
        rename_i l el
        split at he
        rotate_left
        · cases he
        rename_i ys k2 ew
        have hlen := ckL_len hits ea
        have hown : ∀ j ∈ slotsT tg, j ∈ (ownOf Γ own).map (·.2) := by
          rw [ownOf_snd]
          intro j hj
          have := List.all_eq_true.mp hsl j hj
          simpa using this
        refine (ps_setDc (own := ownOf Γ own) E.calm nd hy hyl (by rw [sw_dict hk, hsw]) (walk_ok E hi (ckL_star hits) hlen (syl_weak (evs_ok its Γ X E _ hits σ h as _ ea A) el) (fun e1 he d hd => ?_) (fun a z => hb a z) ew) (by rw [E.N, E.sc]; exact blk_ok hblk)
          (fun s H C cl fp => tg_ok (Γ := Γ.blk scope) (X := X.blk s H scope (compEnvC scope cl C X.env) fp) E.K E.calm E.nd E.N (E.blk s H scope C cl fp).sc rfl tg _ htg) (fun _ _ _ _ _ => pts_nil)
          (fun s H C cl fp => PE.gen fun A σ h x f h' e => (ev_ok key (Γ.blk scope) _ (E.blk s H scope C cl fp) _ hkey false σ h x f h' e A).1 rfl)
          (fun s H C cl fp => PE.gen fun A σ h x f h' e => (ev_ok val (Γ.blk scope) _ (E.blk s H scope C cl fp) _ hval false σ h x f h' e A).1 rfl) (set_ok hns)).mono fun D σV H q => dc_read hown (by rw [ownOf_snd]; exact he) σV H _ q
        subst he
        subst hd
        obtain ⟨f1, has⟩ := weak1 el
        subst has
        exact sy1_weak (one_ok its Γ X E _ hits σ h d f1 k1 ea A)
end
end Og

end
section
set_option Elab.async false
set_option linter.all false
set_option maxRecDepth 100000
/-! Statements: what is written, what is stored at once. -/
namespace Og
open PySem PySem.Spec PyProof.Rows L2
section
variable {c : Cf} {X : Cx} {A : List Addr}
theorem RvL.set {H : Hp} {v : V} {d : D} (rv : Rv c H A v d) : ∀ {vs : List V} {ds : List D} {j : Nat}, RvL c H A vs ds → RvL c H A (vs.set j v) (setN ds j d)
  | _, _, _, .nil => .nil
  | _, _, 0, .cons _ t => .cons rv t
  | _, _, j + 1, .cons r t => .cons r (RvL.set rv t)
/-- x[k] = v of one's own list or dict -/
def rSetW (c : Cf) (A : List Addr) (x k dv x' : D) : TSet := fun ov iv vv H Q => ∃ a, ov = .ref a ∧ a ∈ A ∧ Ow c H A a x ∧ Rv c H A iv k ∧ Rv c H A vv dv ∧ ∀ o, Ow c (upd H a o) A a x' → Q (upd H a o)
theorem upd_upd' {H : Hp} {a : Addr} {o o' : HO} : upd (upd H a o) a o' = upd H a o' := upd_upd
theorem set_v {x k dv x' : D} (e : setV x k dv = some x') (hu : X.A.units + 65 < cLine) : PSet X (rSetW c A x k dv x') := by
  intro pins s σ H ov iv vv ovv ivv u Q I ro ri rv ⟨a, eo, ma, ow, rk, rd, q⟩
  subst eo
  cases x with
  | list ds =>
    cases k with
    | int i =>
      simp only [setV] at e
      split at e
      rotate_left
      · cases e
      rename_i j ej
      cases e
      cases ow with
      | lst ha r =>
        cases rk
        exact set_list pins s σ H _ _ vv ovv ivv u Q I ro ri rv ⟨a, _, i, j, rfl, rfl, ha, by rw [r.length]; exact ixI_of ej, q _ (.lst upd_same ((r.set rd).step (al_write ma)))⟩
    | _ => simp [setV] at e
  | dict ds =>
    simp only [setV] at e
    split at e
    rotate_left
    · cases e
    rename_i hk
    simp only [Bool.and_eq_true] at hk
    obtain ⟨hk, hz⟩ := hk
    have hz : ds.length < 1000000 := Nat.blt_eq.mp hz
    cases e
    unfold keyOk at hk
    cases (show ovv = Value.ref a from ro)
    cases hka : keyA k with
    | true =>
      rw [hka] at hk
      obtain ⟨κ, rfl, rfl⟩ := keyA_rv hka rk
      cases ow with
      | @dK kvs _ ha hq r =>
        obtain ⟨p1, p2⟩ := put_at (c := c) (A := A) (H := H) eqv_keyD κ rd hq r
        have hl : kvs.length < sizeLine := by
          have e1 : ds.length = kvs.length := by have := congrArg List.length hq; simpa using this
          rw [← e1, sizeLine_eq]; omega
        exact d_setItem (by omega) I (DPut.k ha hl) ri rv fun s' I' => ⟨_, I', q _ (.dK upd_same p1 (p2.step (al_write ma)))⟩
      | @dT kvs _ ha hq r =>
        cases kvs with
        | nil =>
          have hds : ds = [] := by cases ds with
            | nil => rfl
            | cons _ _ => simp at hq
          subst hds
          have I2 := nilK I ha
          refine d_setItem (by omega) I2 (DPut.k (k := κ) (v := vv) upd_same (by rw [sizeLine_eq]; simp)) ri rv fun s' I' => ⟨_, I', ?_⟩
          rw [upd_upd]
          exact q _ (.dK (kvs := putK [] κ vv) upd_same rfl (.cons (rd.step (al_write ma)) .nil))
        | cons p r =>
          cases ds with
          | nil => simp at hq
          | cons d t =>
            simp only [List.map_cons, List.cons.injEq] at hq
            simp only [List.all_cons, Bool.and_eq_true] at hk
            rw [hq.1] at hk
            simp [keyA] at hk
    | false =>
      rw [hka] at hk
      simp only [Bool.and_eq_true] at hk
      obtain ⟨ks, b, rfl, rfl, hb⟩ := keyT_of hk.1 (.inl rk)
      cases ow with
      | @dK kvs _ ha hq r =>
        cases kvs with
        | nil =>
          have hds : ds = [] := by cases ds with
            | nil => rfl
            | cons _ _ => simp at hq
          subst hds
          have nb : b ≠ a := ne_of hb ha (by intro z; cases z)
          have I2 := nilT I ha
          refine d_setItem (by omega) I2 (.inr ⟨[], ks, b, upd_same, rfl, by rw [upd_ne nb]; exact hb, by rw [sizeLine_eq]; simp, rfl⟩) ri rv fun s' I' => ⟨_, I', ?_⟩
          rw [upd_upd]
          exact q _ (.dT (kvs := putK [] ks vv) upd_same rfl (.cons (rd.step (al_write ma)) .nil))
        | cons p r =>
          cases ds with
          | nil => simp at hq
          | cons d t =>
            simp only [List.map_cons, List.cons.injEq] at hq
            have h2 := hk.2
            simp only [List.all_cons, Bool.and_eq_true] at h2
            rw [hq.1] at h2
            cases p with
            | mk p1 p2 => cases p1 <;> simp [keyD, keyT] at h2
      | @dT kvs _ ha hq r =>
        obtain ⟨p1, p2⟩ := put_at (c := c) (A := A) (H := H) (g := fun l : List Key => .tuple (l.map keyD)) eqv_keyT ks rd hq r
        have hl : kvs.length < sizeLine := by
          have e1 : ds.length = kvs.length := by have := congrArg List.length hq; simpa using this
          rw [← e1, sizeLine_eq]; omega
        exact d_setItem (by omega) I (.inr ⟨kvs, ks, b, ha, rfl, hb, hl, rfl⟩) ri rv fun s' I' => ⟨_, I', q _ (.dT upd_same p1 (p2.step (al_write ma)))⟩
  | _ => cases k <;> simp [setV] at e
/-- x[k], one's own -/
theorem get_v {x k z : D} {f : Fl} {h h' : Hist} (e : subV x k h = .ok z f h') (hu : X.A.units + 65 < cLine) : PGet X (fun ov iv H Q => ∃ a, ov = .ref a ∧ some a ≠ c.bx ∧ Ow c H A a x ∧ Rv c H A iv k ∧ ∀ v, Rv c H A v z → Q v H) := by
  intro pins s σ H ov iv ovv ivv Q I ro ri ⟨a, eo, nb, ow, rk, q⟩
  subst eo
  cases (show ovv = Value.ref a from ro)
  cases x with
  | list ds =>
    cases k with
    | int i =>
      simp only [subV] at e
      cases ow with
      | @lst vs _ ha ra =>
        obtain ⟨rfl, rfl, w, h1, h2⟩ := subL_of ra e
        cases rk
        obtain ⟨t, rfl⟩ := ri
        obtain ⟨its, r, pl, hz⟩ := I.list (SqL.of ha)
        obtain ⟨j, g1, g2, g3, g4, g5⟩ := atI_get h1
        obtain ⟨w', ew, rw'⟩ := r.get g2
        have hl := r.length
        have hn := line63
        have fin : EP X pins σ Q w' s := ⟨w, H, I, rw', q _ h2⟩
        by_cases h0 : 0 ≤ i
        · have hj : i.toNat = j := by
            rw [seqIndex_of h0 g5] at g1
            exact Option.some.inj g1
          exact wpAny_getItem_list pl.isList h0 (by omega) (by rw [hj]; simpa using ew) fin
        · have hj : (i + (its.toArray.size : Int)).toNat = j := by
            rw [seqIndex_neg (by omega) g4] at g1
            rw [List.size_toArray, ← hl]
            exact Option.some.inj g1
          exact wpAny_getItem_list_neg pl.isList (by omega) (by rw [List.size_toArray] <;> omega) (by omega) (by rw [hj]; simpa using ew) fin
    | _ => simp [subV] at e
  | dict ds =>
    simp only [subV] at e
    split at e
    · rename_i hk
      split at e
      · rename_i d hd
        cases e
        obtain ⟨a', H2, ov', ea, I2, back, g, zz⟩ := dlook (c := c) (A := A) I (.inr ⟨a, rfl, nb, ow⟩) (.inl rk) hk
        cases ea
        rcases zz with ⟨z1, z2⟩ | ⟨d', w, z1, z2, z3⟩
        · rw [hd] at z1; cases z1
        · rw [hd] at z1; cases z1
          subst z2
          exact d_getItem (by omega) I2 g ri fun w' s' I' r' => ⟨w, H, back s' I', r', q _ z3⟩
      · cases e
    · cases e
  | tuple l => cases ow
  | _ => cases k <;> simp [subV] at e
end
/-! ### a, b = x, y -/
theorem sole_tup {ts : List Expr} {k : Nat} {pt pos : Pos} {v : Expr} {env : Env} : swapsWithSole [.Tuple ts k pt] v pos.line env = pure false := by
  show swapsWith v (some (.Tuple ts k pt)) pos.line env = pure false
  cases v <;> rfl
theorem sole_sub {a b : Expr} {p pos : Pos} {v : Expr} {env : Env} : swapsWithSole [.Subscript a b p] v pos.line env = pure false := by
  show swapsWith v (some (.Subscript a b p)) pos.line env = pure false
  cases v <;> rfl
theorem st_sub {a b : Expr} {p : Pos} {v : Expr} {env : Env} : swappedStores [.Subscript a b p] v env = pure none := by
  unfold swappedStores; rfl
def tupVals : Expr → Option (List Expr)
  | .Tuple vs _ _ => some vs
  | _ => none
theorem st_notTup {t v : Expr} {env : Env} (h : tupVals v = none) : swappedStores [t] v env = pure none := by
  cases v <;> first
    | (simp [tupVals] at h; done)
    | (unfold swappedStores; cases t <;> rfl)
theorem st_fold {ts vs : List Expr} {k k2 : Nat} {p p2 : Pos} {env : Env} (h : vs.all (foldedForSure 8) = true) : swappedStores [.Tuple ts k p] (.Tuple vs k2 p2) env = pure none := by
  unfold swappedStores
  simp only [h, if_true]
  repeat' split
  all_goals rfl
def isStarE : Expr → Bool
  | .Starred _ _ => true
  | _ => false
theorem star_key {e : Expr} (h : noStar e = true) : isStarE e = false := by cases e <;> first | rfl | cases h
theorem dups2 {x y : Str} (h : x ≠ y) : [x, y].eraseDups = [x, y] := by
  have : (y == x) = false := by simpa using Ne.symm h
  simp [List.eraseDups_cons, this]
theorem dups3 {x y z : Str} (h : x ≠ y) (h2 : x ≠ z) (h3 : y ≠ z) : [x, y, z].eraseDups = [x, y, z] := by
  have e1 : (y == x) = false := by simpa using Ne.symm h
  have e2 : (z == x) = false := by simpa using Ne.symm h2
  have e3 : (z == y) = false := by simpa using Ne.symm h3
  simp [List.eraseDups_cons, e1, e2, e3]
theorem st_two {x y : Str} {px py pt pt2 : Pos} {kt k2 : Nat} {a b : Expr} {env : Env} (hk : env.scope.kind = .function) (ha : noStar a = true) (hb : noStar b = true) (hx : env.kindOf x = some .local) (hy : env.kindOf y = some .local) (hl : (py.line == px.line) = true) (hxy : x ≠ y)
    (h1 : ([a, b].all (foldedForSure 8)) = false) (h2 : ([a, b].all (constantsAlone 8)) = false) : swappedStores [.Tuple [.Name x px, .Name y py] kt pt] (.Tuple [a, b] k2 pt2) env = pure (some [x, y]) := by
  have hbk : env.blockKind = .function := by unfold Env.blockKind; rw [hk]; rfl
  have hl2 : (px.line == px.line) = true := beq_self_eq_true _
  unfold swappedStores
  simp only [hbk, List.any_cons, List.any_nil, Bool.or_false, h1, h2, hx, hy, List.filterMap_cons, List.filterMap_nil, List.head?_cons, Option.map_some, Option.getD_some, Expr.pos, hl, hl2, Bool.and_true, beq_self_eq_true, if_true, List.length_cons, List.length_nil, dups2 hxy]
  rw [if_neg (by decide), if_neg ?_, if_neg (by decide), if_neg (by decide), if_neg (by decide)]
  intro z
  rw [Bool.or_eq_true] at z
  rcases z with z | z
  · have := star_key ha
    have z2 : isStarE a = true := z
    rw [z2] at this
    cases this
  · have := star_key hb
    have z2 : isStarE b = true := z
    rw [z2] at this
    cases this
theorem st_three {x y w : Str} {px py pw pt pt2 : Pos} {kt k2 : Nat} {a b d : Expr} {env : Env} (hk : env.scope.kind = .function) (ha : noStar a = true) (hb : noStar b = true) (hd : noStar d = true) (hx : env.kindOf x = some .local) (hy : env.kindOf y = some .local) (hw : env.kindOf w = some .local) (hl : (py.line == px.line) = true) (hl3 : (pw.line == px.line) = true) (hxy : x ≠ y) (hxw : x ≠ w) (hyw : y ≠ w)
    (h1 : ([a, b, d].all (foldedForSure 8)) = false) (h2 : ([a, b, d].all (constantsAlone 8)) = false) : swappedStores [.Tuple [.Name x px, .Name y py, .Name w pw] kt pt] (.Tuple [a, b, d] k2 pt2) env = pure (some [x, y, w]) := by
  have hbk : env.blockKind = .function := by unfold Env.blockKind; rw [hk]; rfl
  have hl2 : (px.line == px.line) = true := beq_self_eq_true _
  unfold swappedStores
  simp only [hbk, List.any_cons, List.any_nil, Bool.or_false, h1, h2, hx, hy, hw, List.filterMap_cons, List.filterMap_nil, List.head?_cons, Option.map_some, Option.getD_some, Expr.pos, hl, hl2, hl3, Bool.and_true, beq_self_eq_true, if_true, List.length_cons, List.length_nil, dups3 hxy hxw hyw]
  rw [if_neg (by decide), if_neg ?_, if_neg (by decide), if_neg (by decide), if_neg (by decide)]
  intro z
  rw [Bool.or_eq_true, Bool.or_eq_true] at z
  rcases z with z | z | z
  · have := star_key ha
    have z2 : isStarE a = true := z
    rw [z2] at this
    cases this
  · have := star_key hb
    have z2 : isStarE b = true := z
    rw [z2] at this
    cases this
  · have := star_key hd
    have z2 : isStarE d = true := z
    rw [z2] at this
    cases this
/-! ### in-place operators of ints -/
theorem ip_bin {X : Cx} {op : Bop} {i j : Int} {z : D} {f : Fl} {h h' : Hist} (e : binV op (.int i) (.int j) h = .ok z f h') (hop : op ≠ .pow) (hop2 : op ≠ .fdiv) : ∃ n, z = .int n ∧ h' = h ∧ PIp X (bopP op) (fun x y H Q => x = .int i ∧ y = .int j ∧ Q (.int n) H) := by
  cases op with
  | add =>
    simp only [binV, addV] at e
    obtain ⟨rfl, rfl, rfl⟩ := kIx e
    exact ⟨_, rfl, rfl, fun pins s σ H x y v u Q I rx ry ⟨ex, ey, q⟩ => iop_add pins s σ H x y v u Q I rx ry ⟨i, j, ex, ey, q⟩⟩
  | sub =>
    simp only [binV] at e
    obtain ⟨rfl, rfl, rfl⟩ := kIx e
    exact ⟨_, rfl, rfl, fun pins s σ H x y v u Q I rx ry ⟨ex, ey, q⟩ => iop_sub pins s σ H x y v u Q I rx ry ⟨i, j, ex, ey, q⟩⟩
  | mul =>
    simp only [binV, mulV] at e
    split at e
    · rename_i hs
      obtain ⟨rfl, rfl, rfl⟩ := kIx e
      rw [Bool.or_eq_true] at hs
      have hc : CMul i j := by
        rcases hs with z | z
        · exact .inl (small_iff z)
        · exact .inr (small_iff z)
      exact ⟨_, rfl, rfl, fun pins s σ H x y v u Q I rx ry ⟨ex, ey, q⟩ => iop_mul pins s σ H x y v u Q I rx ry ⟨i, j, ex, ey, hc, q⟩⟩
    · cases e
  | mod =>
    simp only [binV] at e
    split at e
    · rename_i hs
      obtain ⟨rfl, rfl, rfl⟩ := kIx e
      have h0 : 0 < j := by rw [ltI_iff] at hs; exact of_decide_eq_true hs
      exact ⟨_, rfl, rfl, fun pins s σ H x y v u Q I rx ry ⟨ex, ey, q⟩ => iop_mod pins s σ H x y v u Q I rx ry ⟨i, j, ex, ey, h0, q⟩⟩
    · cases e
  | fdiv => exact absurd rfl hop2
  | pow => exact absurd rfl hop
end Og

end
section
set_option Elab.async false
set_option linter.all false
set_option maxRecDepth 100000
/-! Statements: the interpreter is right. -/
namespace Og
open PySem PySem.Spec PyProof.Rows L2
def nmOk (Γ : Cc) (i : Nat) (x : Str) : Bool := eqO Γ.N[i]? x && (locB Γ.sc x && (Γ.fn x || lclB Γ.sc x))
def vrOk (Γ : Cc) (i : Nat) (x : Str) : Bool := eqO Γ.N[i]? x && (visB Γ.sc x && dbgB x)
def asAsg : Stmt → Option (Expr × Expr × Pos)
  | .Assign [t] v p => some (t, v, p)
  | _ => none
theorem asAsg_ok {s : Stmt} {t v p} (h : asAsg s = some (t, v, p)) : s = .Assign [t] v p := by
  unfold asAsg at h; split at h
  · cases h; rfl
  · cases h
def asName : Expr → Option (Str × Pos)
  | .Name x p => some (x, p)
  | _ => none
theorem asName_ok {e : Expr} {x p} (h : asName e = some (x, p)) : e = .Name x p := by
  unfold asName at h; split at h
  · cases h; rfl
  · cases h
def asTup : Expr → Option (List Expr × Nat × Pos)
  | .Tuple es k p => some (es, k, p)
  | _ => none
theorem asTup_ok {e : Expr} {es k p} (h : asTup e = some (es, k, p)) : e = .Tuple es k p := by
  unfold asTup at h; split at h
  · cases h; rfl
  · cases h
def asSubN : Expr → Option (Str × Pos × Expr × Pos)
  | .Subscript (.Name x p) i q => some (x, p, i, q)
  | _ => none
theorem asSubN_ok {e : Expr} {x p i q} (h : asSubN e = some (x, p, i, q)) : e = .Subscript (.Name x p) i q := by
  unfold asSubN at h; split at h
  · cases h; rfl
  · cases h
def asMethN : Expr → Option (Str × Pos × Str × Pos × List Expr × Pos)
  | .Call (.Attribute (.Name x p) m ap) xs [] q => some (x, p, m, ap, xs, q)
  | _ => none
theorem asMethN_ok {e : Expr} {x p m ap xs q} (h : asMethN e = some (x, p, m, ap, xs, q)) : e = .Call (.Attribute (.Name x p) m ap) xs [] q := by
  unfold asMethN at h; split at h
  · cases h; rfl
  · cases h
def asExp : Stmt → Option (Expr × Pos)
  | .Expr e p => some (e, p)
  | _ => none
theorem asExp_ok {s : Stmt} {e p} (h : asExp s = some (e, p)) : s = .Expr e p := by
  unfold asExp at h; split at h
  · cases h; rfl
  · cases h
/-- the names of a par: local, on one line -/
def parN (Γ : Cc) (l : Nat) : List (Nat × Bool) → List Expr → Bool
  | [], [] => true
  | (i, _) :: is, e :: es => (match asName e with
    | some (x, p) => nmOk Γ i x && ((p.line == l) && parN Γ l is es)
    | none => false)
  | _, _ => false
def parD : List (Nat × Bool) → Bool
  | [(i, _), (j, _)] => !Nat.beq i j
  | [(i, _), (j, _), (k, _)] => !Nat.beq i j && (!Nat.beq i k && !Nat.beq j k)
  | _ => false
def lineOf : List Expr → Nat
  | .Name _ p :: _ => p.line
  | _ => 0
def opOk : Bop → Bool
  | .pow => false
  | .fdiv => false
  | _ => true
def stB (t v : Expr) : Bool := match tupVals v with
  | none => true
  | some vs => isTupE t && vs.all (foldedForSure 8)
def isNm : Tg → Bool
  | .nm _ => true
  | _ => false
def ckS : S → Cc → List Stmt → Option (List Stmt)
  | .skip, _, sts => (match sts with
    | .Pass _ :: r => some r
    | _ => some sts)
  | .seq a b, Γ, sts => (match ckS a Γ sts with
    | some r => ckS b Γ r
    | none => none)
  | .frz _, _, sts => some sts
  | .asg tg e, Γ, sts => (match sts with
    | st :: r => (match asAsg st with
      | some (t, v, _) => if ckT Γ tg t && (ck e Γ v && ((isComp v == isCompE e) && (isNm tg || stB t v))) then some r else none
      | none => none)
    | [] => none)
  | .own i e, Γ, sts => (match sts with
    | st :: r => (match asAsg st with
      | some (t, v, _) => (match asName t with
        | some (x, _) => if nmOk Γ i x && (ck e Γ v && (isComp v == isCompE e)) then some r else none
        | none => none)
      | none => none)
    | [] => none)
  | .par is es, Γ, sts => (match sts with
    | st :: r => (match asAsg st with
      | some (t, v, _) => (match asTup t, asTup v with
        | some (ts, _, _), some (vs, _, _) => if parN Γ (lineOf ts) is ts && (parD is && (Nat.beq vs.length ts.length && (!(vs.all (foldedForSure 8)) && (!(vs.all (constantsAlone 8)) && ckL es Γ vs)))) then some r else none
        | _, _ => none)
      | none => none)
    | [] => none)
  | .aug i op e, Γ, sts => (match sts with
    | .AugAssign (.Name x _) o v _ :: r => if nmOk Γ i x && (decide (o = bopP op) && (opOk op && ck e Γ v)) then some r else none
    | _ => none)
  | .setsub i ix e, Γ, sts => (match sts with
    | st :: r => (match asAsg st with
      | some (t, v, _) => (match asSubN t with
        | some (x, _, ie, _) => if vrOk Γ i x && (noSlice ie && (ck ix Γ ie && ck e Γ v)) then some r else none
        | none => none)
      | none => none)
    | [] => none)
  | .augsub i op ix e, Γ, sts => (match sts with
    | .AugAssign (.Subscript (.Name x _) ie _) o v _ :: r => if vrOk Γ i x && (decide (o = bopP op) && (opOk op && (noSlice ie && (ck ix Γ ie && ck e Γ v)))) then some r else none
    | _ => none)
  | .app i e, Γ, sts => (match sts with
    | st :: r => (match asExp st with
      | some (ee, _) => (match asMethN ee with
        | some (x, _, m, ap, [v], q) => if vrOk Γ i x && (eqS m "append" && (endsMeth ap q && (noStar v && ck e Γ v))) then some r else none
        | _ => none)
      | none => none)
    | [] => none)
  | .ext i e, Γ, sts => (match sts with
    | st :: r => (match asExp st with
      | some (ee, _) => (match asMethN ee with
        | some (x, _, m, ap, [v], q) => if vrOk Γ i x && (eqS m "extend" && (endsMeth ap q && (noStar v && ck e Γ v))) then some r else none
        | _ => none)
      | none => none)
    | [] => none)
  | .pop0 i, Γ, sts => (match sts with
    | st :: r => (match asExp st with
      | some (ee, _) => (match asMethN ee with
        | some (x, _, m, ap, [], q) => if vrOk Γ i x && (eqS m "pop" && endsMeth ap q) then some r else none
        | _ => none)
      | none => none)
    | [] => none)
  | .popTo j i, Γ, sts => (match sts with
    | st :: r => (match asAsg st with
      | some (t, v, _) => (match asName t, asMethN v with
        | some (y, _), some (x, _, m, ap, [], q) => if nmOk Γ j y && (vrOk Γ i x && (eqS m "pop" && endsMeth ap q)) then some r else none
        | _, _ => none)
      | none => none)
    | [] => none)
  | .ifs t a b, Γ, sts => (match sts with
    | .If e x y _ :: r => (match ckS a Γ x, ckS b Γ y with
      | some [], some [] => if ck t Γ e then some r else none
      | _, _ => none)
    | _ => none)
  | .for_ tg k its body, Γ, sts => (match sts with
    | .For t iter bd [] _ :: r => (match itArgs Γ k t iter, ckS body Γ bd with
      | some xs, some [] => if noSet iter && (ckL its Γ xs && ckT Γ tg t) then some r else none
      | _, _ => none)
    | _ => none)
  | .while_ t body, Γ, sts => (match sts with
    | .While e bd [] _ :: r => (match ckS body Γ bd with
      | some [] => if ck t Γ e then some r else none
      | _ => none)
    | _ => none)
  | .ret e, Γ, sts => (match sts with
    | .Return (some v) _ :: r => if ck e Γ v then some r else none
    | _ => none)
  | .retOwn i, Γ, sts => (match sts with
    | .Return (some (.Name x _)) _ :: r => if vrOk Γ i x then some r else none
    | _ => none)
  | .brk, _, sts => (match sts with
    | .Break _ :: r => some r
    | _ => none)
  | .cont, _, sts => (match sts with
    | .Continue _ :: r => some r
    | _ => none)
  | .exp e, Γ, sts => (match sts with
    | st :: r => (match asExp st with
      | some (v, _) => if ck e Γ v && !(isComp v) then some r else none
      | none => none)
    | [] => none)
  | .bad, _, sts => (match sts with
    | _ :: r => some r
    | [] => none)
  | .rem _ _, _, _ => none
  | .pop1 _ _, _, _ => none
  | .ins _ _ _, _, _ => none
structure StEnv (c : Cf) (o : Hist → Int → Int) (G : List D) (φ : Nat → List Og.Arg → Hist → RE) (k : Nat) (Γ : Cc) (X : Cx) : Prop extends EnvOk c o G φ k Γ X where
  kind : X.env.scope.kind = .function
  hp : PassesOwn (model X.prog X.w) X.A X.env X.xe
section
variable {c : Cf} {o : Hist → Int → Int} {G : List D} {φ : Nat → List Og.Arg → Hist → RE} {k : Nat} {Γ : Cc} {X : Cx} {W : Nat}
theorem nm_ok {i : Nat} {x : Str} (E : EnvOk c o G φ k Γ X) (h : nmOk Γ i x = true) : X.N[i]? = some x ∧ L2.Loc X.env.scope x ∧ (X.fn x = true ∨ X.env.scope.names.lookup x = some .local) := by
  unfold nmOk at h
  simp only [Bool.and_eq_true, Bool.or_eq_true] at h
  refine ⟨by rw [E.N]; exact eqO_iff h.1, by rw [E.sc]; exact locB_ok h.2.1, ?_⟩
  rcases h.2.2 with z | z
  · exact .inl (by rw [E.fn]; exact z)
  · exact .inr (by rw [E.sc]; exact lclB_ok z)
/-- one's own list or dict by its name -/
def tOwn (c : Cf) (A : List Addr) (σ : Sl) (h : Hist) (i : Nat) (x : D) : TE := fun σV H Q => SsR c H A σ σV ∧ Wd c H A h ∧ ∀ a, σV[i]? = some (some (.ref a)) → some a ≠ c.bx → a ∈ A → Ow c H A a x → Q (.ref a) H
theorem e_own {A : List Addr} {σ : Sl} {h : Hist} {i : Nat} {s : Str} {x : D} {pos : Pos} (E : EnvOk c o G φ k Γ X) (hv : vrOk Γ i s = true) (g : getS σ i = some (.own x)) : PE X (.Name s pos) (tOwn c A σ h i x) := by
  unfold vrOk at hv
  simp only [Bool.and_eq_true] at hv
  refine (pe_var (i := i) (by rw [E.N]; exact eqO_iff hv.1) (by rw [E.sc]; exact visB_ok hv.2.1) (dbg1 hv.2.2) (dbg2 hv.2.2)).mono fun σV H Q ⟨s, w, q⟩ => ?_
  obtain ⟨v, hv, a, rfl, nb, ma, ow⟩ := s.at_ i _ g
  exact ⟨_, hv, q a hv nb ma ow⟩
theorem lastD_rv {H : Hp} {A : List Addr} : ∀ {ds : List D} {vs : List V} {l : List D} {y : D}, lastD ds = some (l, y) → RvL c H A vs ds → ∃ v, vs[vs.length - 1]? = some v ∧ Rv c H A v y ∧ RvL c H A vs.dropLast l
  | [], _, _, _, e, _ => by simp [lastD] at e
  | [x], _, l, y, e, .cons r .nil => by
    simp only [lastD] at e; cases e
    exact ⟨_, rfl, r, .nil⟩
  | x :: z :: t, _, l, y, e, .cons r t' => by
    simp only [lastD] at e
    split at e
    · rename_i l' y' e1
      cases e
      obtain ⟨v, h1, h2, h3⟩ := lastD_rv e1 t'
      cases t' with
      | cons r2 t2 =>
        refine ⟨v, ?_, h2, ?_⟩
        · simpa using h1
        · rw [List.dropLast_cons₂]
          exact .cons r h3
    · cases e
theorem few1 {e : Expr} {env : Env} {q : Pos} (h : noStar e = true) : ((backTo q (starEach [e] env)).all (fun x => !x.1) && (backToKw q (keywordEach [] env)).all (fun x => x.1.isSome)
      && decide (([e] : List Expr).length + ([] : List Keyword).length + (if ([] : List Keyword).isEmpty then 0 else 1) < 30)) = true := by
  rw [star_ok h]; rfl
end
end Og

end
section
set_option Elab.async false
set_option linter.all false
set_option maxRecDepth 100000
/-! a, b = x, y -/
namespace Og
open PySem PySem.Spec PyProof.Rows L2
/-- a value that waits to be stored -/
def Pn (c : Cf) (H0 : Hp) (A0 A : List Addr) (σ : Sl) (σV : L2.St) (H : Hp) (b : Bool) (v : V) (x : D) : Prop := match b with
  | true => ∃ a, v = .ref a ∧ some a ≠ c.bx ∧ a ∈ A ∧ Ow c H A a x ∧ H0 a = none ∧ a ∉ A0 ∧ ∀ j y, getS σ j = some (.own y) → σV[j]? ≠ some (some (.ref a))
  | false => Rv c H A v x
def svB (b : Bool) (x : D) : SV := match b with
  | true => .own x
  | false => .d x
section
variable {c : Cf} {H0 H H' : Hp} {A0 A A' : List Addr} {σ : Sl} {h h' : Hist} {σV : L2.St}
theorem Ow.step {a : Addr} {x : D} (al : Al A A' H H') (ka : ∀ u, H a = Option.some u → H' a = Option.some u) (o : Ow c H A a x) : Ow c H' A' a x := by
  cases o with
  | lst e r => exact .lst (ka _ e) (r.step al)
  | dK e q r => exact .dK (ka _ e) q (r.step al)
  | dT e q r => exact .dT (ka _ e) q (r.step al)
theorem Pn.keep {b : Bool} {v : V} {x : D} (al : Al A A' H H') (sub : ∀ a ∈ A, a ∈ A') (k : Kp c.bx H H') (p : Pn c H0 A0 A σ σV H b v x) : Pn c H0 A0 A' σ σV H' b v x := by
  cases b with
  | false => exact Rv.step al p
  | true =>
    obtain ⟨a, rfl, nb, ma, ow, h0, na0, no⟩ := p
    exact ⟨a, rfl, nb, sub a ma, ow.step al (fun u e => k a u nb e), h0, na0, no⟩
theorem Iv.put {i : Nat} {b : Bool} {v : V} {x : D} (iv : Iv c H0 A0 A σ h σV H) (p : Pn c H0 A0 A σ σV H b v x) : Iv c H0 A0 A (setS σ i (some (svB b x))) h (σV.set i (some v)) H := by
  cases b with
  | false => exact iv.setD p
  | true =>
    obtain ⟨a, rfl, nb, ma, ow, h0, na0, no⟩ := p
    refine ⟨⟨by rw [setS_eq]; simpa using iv.ss.len, fun j t e => ?_, fun j l y z b e1 e2 h1 h2 => ?_⟩, iv.wd, iv.kp, iv.sub, iv.sup, iv.b0, fun j y b g gb => ?_⟩
    · rcases getS_set e with ⟨rfl, q⟩ | ⟨n, q⟩
      · cases q
        have := getS_setl e
        exact ⟨_, List.getElem?_set_self (by rw [← iv.ss.len]; exact this), a, rfl, nb, ma, ow⟩
      · obtain ⟨u, h1, h2⟩ := iv.ss.at_ j t q
        exact ⟨u, by rw [List.getElem?_set_ne (Ne.symm n)]; exact h1, h2⟩
    · rcases getS_set e1 with ⟨rfl, q⟩ | ⟨n, q⟩
      · rcases getS_set e2 with ⟨rfl, q2⟩ | ⟨n2, q2⟩
        · rfl
        · rw [List.getElem?_set_ne (Ne.symm n2)] at h2
          have := getS_setl e1
          rw [List.getElem?_set_self (by rw [← iv.ss.len]; exact this)] at h1
          cases h1
          exact absurd h2 (no _ _ q2)
      · rcases getS_set e2 with ⟨rfl, q2⟩ | ⟨n2, q2⟩
        · rw [List.getElem?_set_ne (Ne.symm n)] at h1
          have := getS_setl e2
          rw [List.getElem?_set_self (by rw [← iv.ss.len]; exact this)] at h2
          cases h2
          exact absurd h1 (no _ _ q)
        · rw [List.getElem?_set_ne (Ne.symm n)] at h1
          rw [List.getElem?_set_ne (Ne.symm n2)] at h2
          exact iv.ss.ap j l y z b q q2 h1 h2
    · rcases getS_set g with ⟨rfl, q⟩ | ⟨n, q⟩
      · have := getS_setl g
        rw [List.getElem?_set_self (by rw [← iv.ss.len]; exact this)] at gb
        cases gb
        exact ⟨h0, na0⟩
      · rw [List.getElem?_set_ne (Ne.symm n)] at gb
        exact iv.own j y b q gb
/-- the others wait on -/
theorem Pn.put {i : Nat} {b b2 : Bool} {v v2 : V} {x x2 : D} (len : σ.length = σV.length) (ne : b = true → b2 = true → v ≠ v2) (p : Pn c H0 A0 A σ σV H b v x) : Pn c H0 A0 A (setS σ i (some (svB b2 x2))) (σV.set i (some v2)) H b v x := by
  cases b with
  | false => exact p
  | true =>
    obtain ⟨a, rfl, nb, ma, ow, h0, na0, no⟩ := p
    refine ⟨a, rfl, nb, ma, ow, h0, na0, fun j y g gb => ?_⟩
    rcases getS_set g with ⟨rfl, q⟩ | ⟨n, q⟩
    · have := getS_setl g
      rw [List.getElem?_set_self (by rw [← len]; exact this)] at gb
      cases b2 with
      | false => cases q
      | true =>
        simp only [Option.some.injEq] at gb
        exact ne rfl rfl gb.symm
    · rw [List.getElem?_set_ne (Ne.symm n)] at gb
      exact no j y q gb
/-- one value of a par -/
theorem par_step {ef : Sl → Hist → RE} {x : D} {f : Fl} {b : Bool} {Q : VK} (iv : Iv c H0 A0 A σ h σV H) (e : ef σ h = .ok x f h') (hf : (b = true ∧ f = .fr) ∨ (b = false ∧ (f = .pl ∨ f = .fr)))
    (q : ∀ v A' H', Iv c H0 A0 A' σ h' σV H' → Al A A' H H' → (∀ a ∈ A, a ∈ A') → Kp c.bx H H' → Pn c H0 A0 A' σ σV H' b v x → (b = true → ∀ a ∈ A, v ≠ .ref a) → Q v H') : gEv c ef σV H Q := by
  refine ⟨A, σ, h, x, f, h', e, iv.ss, iv.wd, fun v H1 k1 w1 r1 => ?_⟩
  rcases hf with ⟨rfl, rfl⟩ | ⟨rfl, hf⟩
  · obtain ⟨a, rfl, hn, na, ow⟩ := id r1
    have nb : some a ≠ c.bx := iv.wd.bin.ne na
    have bA : Bin c.bx (a :: A) := fun b e => List.mem_cons_of_mem _ (iv.wd.bin b e)
    have al : Al A (a :: A) H H1 := ⟨fun b hb => by
      rcases List.mem_cons.mp hb with z | z
      · subst z; exact .inr hn
      · exact .inl z, fun b u n e => k1 b u (iv.wd.bin.ne n) e⟩
    have h0 : H0 a = none := iv.kp.none nb hn
    refine q (.ref a) (a :: A) H1 ⟨(iv.ss.more hn).keep bA k1, ⟨fun b hb => ?_, bA, w1.box⟩, iv.kp.trans k1, fun b hb => ?_, fun b hb => List.mem_cons_of_mem _ (iv.sup b hb), iv.b0, iv.own⟩ al (fun b hb => List.mem_cons_of_mem _ hb) k1 ⟨a, rfl, nb, List.mem_cons_self .., ow, h0, fun z => na (iv.sup _ z), fun j y g gb => ?_⟩ (fun _ b hb z => by cases z; exact na hb)
    · rcases List.mem_cons.mp hb with z | z
      · subst z; exact ow.some
      · exact w1.dom b z
    · rcases List.mem_cons.mp hb with z | z
      · subst z; exact .inr h0
      · exact iv.sub b z
    · obtain ⟨u, h1, a', e', _, m, _⟩ := iv.ss.at_ j _ g
      rw [gb] at h1
      cases h1
      cases e'
      exact na m
  · exact q v A H1 (iv.keep k1 w1) (Al.kp iv.wd.bin k1) (fun _ z => z) k1 (show Rv c H1 A v x from r1.rv (by rcases hf with rfl | rfl <;> decide) (by rcases hf with rfl | rfl <;> decide)) (fun z => nomatch z)
end
theorem parS_cons {i : Nat} {b : Bool} {is : List (Nat × Bool)} {xs : List Og.Arg} {σ σ' : Sl} (e : parS ((i, b) :: is) xs σ = some σ') : ∃ x f r σ1, xs = .d x f :: r ∧ ((b = true ∧ f = .fr) ∨ (b = false ∧ (f = .pl ∨ f = .fr))) ∧ parS is r σ = some σ1 ∧ σ' = setS σ1 i (some (svB b x)) := by
  cases xs with
  | nil => simp [parS] at e
  | cons a r =>
    cases a with
    | box => simp [parS] at e
    | d x f =>
      simp only [parS] at e
      split at e
      · split at e
        · rename_i σ1 e1; cases e; exact ⟨x, _, r, σ1, rfl, .inl ⟨rfl, rfl⟩, e1, rfl⟩
        · cases e
      · split at e
        · rename_i σ1 e1; cases e; exact ⟨x, _, r, σ1, rfl, .inr ⟨rfl, .inl rfl⟩, e1, rfl⟩
        · cases e
      · split at e
        · rename_i σ1 e1; cases e; exact ⟨x, _, r, σ1, rfl, .inr ⟨rfl, .inr rfl⟩, e1, rfl⟩
        · cases e
      · cases e
theorem parS_nil {xs : List Og.Arg} {σ σ' : Sl} (e : parS [] xs σ = some σ') : xs = [] ∧ σ' = σ := by
  cases xs with
  | nil => simp only [parS] at e; cases e; exact ⟨rfl, rfl⟩
  | cons _ _ => simp [parS] at e
theorem setS_comm {σ : Sl} {i j : Nat} {a b : Option SV} (n : i ≠ j) : setS (setS σ i a) j b = setS (setS σ j b) i a := by
  simp only [setS_eq]
  exact List.set_comm _ _ n
section
variable {c : Cf} {o : Hist → Int → Int} {G : List D} {φ : Nat → List Og.Arg → Hist → RE} {k : Nat} {Γ : Cc} {X : Cx} {W : Nat}
theorem evs_cons {a b : E} {Γ : Cc} {x : Expr} {r : List Expr} {σ : Sl} {h h' : Hist} {y : D} {f : Fl} {ys : List Og.Arg} (e : evs o G φ (.cons a b) σ h = .ok (.d y f :: ys) h') : ∃ h1, ev o G φ a false σ h = .ok y f h1 ∧ evs o G φ b σ h1 = .ok ys h' := by
  simp only [evs] at e
  split at e
  · split at e
    · cases e
    · cases e
  · split at e
    · rename_i e1
      split at e
      · rename_i e2; cases e; exact ⟨_, e1, e2⟩
      · cases e
    · cases e
theorem evs_nil {b : E} {Γ : Cc} {σ : Sl} {h h' : Hist} {ys : List Og.Arg} (hc : ckL b Γ [] = true) (e : evs o G φ b σ h = .ok ys h') : ys = [] ∧ h' = h := ⟨nil_e hc e, nil_h hc e⟩
theorem ckL_cons {es : E} {x : Expr} {r : List Expr} (h : ckL es Γ (x :: r) = true) : ∃ a b, es = .cons a b ∧ noStar x = true ∧ ck a Γ x = true ∧ ckL b Γ r = true := by
  cases es <;> simp only [ckL] at h <;> first
    | (cases h; done)
    | (simp only [Bool.and_eq_true] at h; exact ⟨_, _, rfl, h.1, h.2.1, h.2.2⟩)
    | simp at h
theorem parN_cons {l : Nat} {is : List (Nat × Bool)} {i : Nat} {b : Bool} {e : Expr} {es : List Expr} (h : parN Γ l ((i, b) :: is) (e :: es) = true) : ∃ x p, e = .Name x p ∧ Γ.N[i]? = some x ∧ nmOk Γ i x = true ∧ (p.line == l) = true ∧ parN Γ l is es = true := by
  simp only [parN] at h
  split at h
  · rename_i x p hn
    simp only [Bool.and_eq_true] at h
    exact ⟨x, p, asName_ok hn, eqO_iff (by have := h.1; unfold nmOk at this; simp only [Bool.and_eq_true] at this; exact this.1), h.1, h.2.1, h.2.2⟩
  · cases h
/-! ### not all of them plain locals: stored in order -/
theorem ps_parC {i j : Nat} {x y : Str} {a b : Expr} {ta : TA} {px py pt pos : Pos} {kt k2 pt2} (hc : X.calm = true) (hN : X.N.Nodup) (hi : X.N[i]? = some x) (hj : X.N[j]? = some y)
    (hx : L2.Loc X.env.scope x) (hy : L2.Loc X.env.scope y) (fx : X.fn x = true ∨ X.env.scope.names.lookup x = some .local) (fy : X.fn y = true ∨ X.env.scope.names.lookup y = some .local) (ha : PA X [a, b] ta)
    (hw : swappedStores [.Tuple [.Name x px, .Name y py] kt pt] (.Tuple [a, b] k2 pt2) X.env = pure none) :
    PS X (.Assign [.Tuple [.Name x px, .Name y py] kt pt] (.Tuple [a, b] k2 pt2) pos) (tPar i j ta) := by
  refine ⟨fun pins s σ H D I h => ?_⟩
  refine wpAny_Assign_stores (Tuple_ (thn (ha.run _ pins s σ H _ I h) fun us s1 ⟨vs, H1, I1, r1, q1⟩ => ?_)) sole_tup hw
  obtain ⟨v, w, e1, q1⟩ := q1
  subst e1
  obtain ⟨u1, u2, rfl, rv, rw'⟩ : ∃ u1 u2, us = [u1, u2] ∧ RelV v u1 ∧ RelV w u2 := by
    cases r1 with
    | cons p q =>
      cases q with
      | cons p' q' =>
        cases q'
        exact ⟨_, _, rfl, p, p'⟩
  refine wpAny_newObj_type ?_ (by show 2 ≤ sizeLine; decide)
  have I2 : Inv X pins σ H1 { s1 with heap := s1.heap.push { cls := .type "tuple", data := .seq [u1, u2].toArray } } := I1.kept (t' := s1.toks) fun b o e => Heap.get?_push_of_some _ e
  show wpAny _ _ (assign (.Tuple [.Name x px, .Name y py] kt pt) X.env (.ref s1.heap.objs.size)) _ _ _
  refine assign_Tuple_tuple (items := #[u1, u2]) (I.ok.hd hc) (IsTup.new s1.heap _) rfl rfl fun h' hx' => ?_
  have I3 := I2.kept (h' := h') (t' := s1.toks) fun b o e => hx' b o (Nat.ne_of_lt (Heap.lt_size e)) e
  show wpAny _ _ (assignInOrder [assign (.Name x px) X.env, assign (.Name y py) X.env] [u1, u2]) _ _ _
  refine assignInOrder_cons (wpAny_assign_Name (store_ok I3 hN hi hx rv (fun s2 I4 => ?_) fx))
  refine assignInOrder_cons (wpAny_assign_Name (store_ok I4 hN hj hy rw' (fun s3 I5 => assignInOrder_nil ?_) fy))
  exact ⟨_, H1, I5, q1⟩
theorem ps_par3C {i j l : Nat} {x y z : Str} {a b c : Expr} {ta : TA} {px py pz pt pos : Pos} {kt k2 pt2} (hc : X.calm = true) (hN : X.N.Nodup) (hi : X.N[i]? = some x) (hj : X.N[j]? = some y) (hl : X.N[l]? = some z)
    (hx : L2.Loc X.env.scope x) (hy : L2.Loc X.env.scope y) (hz : L2.Loc X.env.scope z) (fx : X.fn x = true ∨ X.env.scope.names.lookup x = some .local) (fy : X.fn y = true ∨ X.env.scope.names.lookup y = some .local) (fz : X.fn z = true ∨ X.env.scope.names.lookup z = some .local) (ha : PA X [a, b, c] ta)
    (hw : swappedStores [.Tuple [.Name x px, .Name y py, .Name z pz] kt pt] (.Tuple [a, b, c] k2 pt2) X.env = pure none) :
    PS X (.Assign [.Tuple [.Name x px, .Name y py, .Name z pz] kt pt] (.Tuple [a, b, c] k2 pt2) pos) (tPar3 i j l ta) := by
  refine ⟨fun pins s σ H D I h => ?_⟩
  refine wpAny_Assign_stores (Tuple_ (thn (ha.run _ pins s σ H _ I h) fun us s1 ⟨vs, H1, I1, r1, q1⟩ => ?_)) sole_tup hw
  obtain ⟨v1, v2, v3, e1, q1⟩ := q1
  subst e1
  obtain ⟨u1, u2, u3, rfl, r1', r2', r3'⟩ : ∃ u1 u2 u3, us = [u1, u2, u3] ∧ RelV v1 u1 ∧ RelV v2 u2 ∧ RelV v3 u3 := by
    cases r1 with
    | cons p q =>
      cases q with
      | cons p' q' =>
        cases q' with
        | cons p'' q'' =>
          cases q''
          exact ⟨_, _, _, rfl, p, p', p''⟩
  refine wpAny_newObj_type ?_ (by show 3 ≤ sizeLine; decide)
  have I2 : Inv X pins σ H1 { s1 with heap := s1.heap.push { cls := .type "tuple", data := .seq [u1, u2, u3].toArray } } := I1.kept (t' := s1.toks) fun b o e => Heap.get?_push_of_some _ e
  show wpAny _ _ (assign (.Tuple [.Name x px, .Name y py, .Name z pz] kt pt) X.env (.ref s1.heap.objs.size)) _ _ _
  refine assign_Tuple_tuple (items := #[u1, u2, u3]) (I.ok.hd hc) (IsTup.new s1.heap _) rfl rfl fun h' hx' => ?_
  have I3 := I2.kept (h' := h') (t' := s1.toks) fun b o e => hx' b o (Nat.ne_of_lt (Heap.lt_size e)) e
  show wpAny _ _ (assignInOrder [assign (.Name x px) X.env, assign (.Name y py) X.env, assign (.Name z pz) X.env] [u1, u2, u3]) _ _ _
  refine assignInOrder_cons (wpAny_assign_Name (store_ok I3 hN hi hx r1' (fun s2 I4 => ?_) fx))
  refine assignInOrder_cons (wpAny_assign_Name (store_ok I4 hN hj hy r2' (fun s3 I5 => ?_) fy))
  refine assignInOrder_cons (wpAny_assign_Name (store_ok I5 hN hl hz r3' (fun s4 I6 => assignInOrder_nil ?_) fz))
  exact ⟨_, H1, I6, q1⟩
theorem fm_lt {α β : Type} {f : α → Option β} {x : α} : ∀ {l : List α}, x ∈ l → f x = none → (l.filterMap f).length ≠ l.length
  | a :: l, h, e => by
    have hle := List.length_filterMap_le f l
    rw [List.filterMap_cons]
    rcases List.mem_cons.mp h with z | z
    · subst z
      rw [e]
      show (l.filterMap f).length ≠ l.length + 1
      omega
    · have := fm_lt z e
      cases f a with
      | none => show (l.filterMap f).length ≠ l.length + 1; omega
      | some b => show (l.filterMap f).length + 1 ≠ l.length + 1; omega
theorem st_cell2 {x y : Str} {px py pt pt2 : Pos} {kt k2 : Nat} {a b : Expr} {env : Env} (h : ¬ (env.kindOf x = some .local ∧ env.kindOf y = some .local)) : swappedStores [.Tuple [.Name x px, .Name y py] kt pt] (.Tuple [a, b] k2 pt2) env = pure none := by
  have key : ∃ x9 p9, Expr.Name x9 p9 ∈ [Expr.Name x px, Expr.Name y py] ∧ (env.kindOf x9 == some .local) = false := by
    by_cases e0 : env.kindOf x = some .local
    · skip
      by_cases e1 : env.kindOf y = some .local
      · skip
        exact absurd ⟨e0, e1⟩ h
      · exact ⟨y, py, by simp, by simpa using e1⟩
    · exact ⟨x, px, by simp, by simpa using e0⟩
  unfold swappedStores
  simp only
  split
  · rfl
  split
  · rfl
  split
  · rfl
  · rename_i z
    exfalso
    apply z
    obtain ⟨x', p', hm, hk⟩ := key
    rw [Bool.or_eq_true]
    left
    refine bne_iff_ne.mpr (fm_lt hm ?_)
    simp only [hk, Bool.false_and]
    rfl
theorem st_cell3 {x y w : Str} {px py pw pt pt2 : Pos} {kt k2 : Nat} {a b d : Expr} {env : Env} (h : ¬ (env.kindOf x = some .local ∧ env.kindOf y = some .local ∧ env.kindOf w = some .local)) : swappedStores [.Tuple [.Name x px, .Name y py, .Name w pw] kt pt] (.Tuple [a, b, d] k2 pt2) env = pure none := by
  have key : ∃ x9 p9, Expr.Name x9 p9 ∈ [Expr.Name x px, Expr.Name y py, Expr.Name w pw] ∧ (env.kindOf x9 == some .local) = false := by
    by_cases e0 : env.kindOf x = some .local
    · skip
      by_cases e1 : env.kindOf y = some .local
      · skip
        by_cases e2 : env.kindOf w = some .local
        · skip
          exact absurd ⟨e0, e1, e2⟩ h
        · exact ⟨w, pw, by simp, by simpa using e2⟩
      · exact ⟨y, py, by simp, by simpa using e1⟩
    · exact ⟨x, px, by simp, by simpa using e0⟩
  unfold swappedStores
  simp only
  split
  · rfl
  split
  · rfl
  split
  · rfl
  · rename_i z
    exfalso
    apply z
    obtain ⟨x', p', hm, hk⟩ := key
    rw [Bool.or_eq_true]
    left
    refine bne_iff_ne.mpr (fm_lt hm ?_)
    simp only [hk, Bool.false_and]
    rfl
theorem parD_ok {is : List (Nat × Bool)} (h : parD is = true) : (∃ i b1 j b2, is = [(i, b1), (j, b2)] ∧ i ≠ j) ∨ ∃ i b1 j b2 l b3, is = [(i, b1), (j, b2), (l, b3)] ∧ i ≠ j ∧ i ≠ l ∧ j ≠ l := by
  have nb : ∀ {i j : Nat}, (!Nat.beq i j) = true → i ≠ j := fun {i j} z e => by subst e; simp at z
  match is, h with
  | [(i, b1), (j, b2)], h => exact .inl ⟨i, b1, j, b2, rfl, nb h⟩
  | [(i, b1), (j, b2), (l, b3)], h =>
    simp only [parD, Bool.and_eq_true] at h
    exact .inr ⟨i, b1, j, b2, l, b3, rfl, nb h.1, nb h.2.1, nb h.2.2⟩
  | [], h => simp [parD] at h
  | [_], h => simp [parD] at h
  | _ :: _ :: _ :: _ :: _, h => simp [parD] at h
theorem s_par (E : StEnv c o G φ k Γ X) {is : List (Nat × Bool)} {es : Og.E} {ts vs : List Expr} {kt kv : Nat} {pt pv p : Pos} {rest : List Stmt} {u : TS} (hu : PSs X rest u) (hn : parN Γ (lineOf ts) is ts = true) (hd : parD is = true) (hl : vs.length = ts.length)
    (h1 : vs.all (foldedForSure 8) = false) (h2 : vs.all (constantsAlone 8) = false) (hck : ckL es Γ vs = true) : PSs X (.Assign [.Tuple ts kt pt] (.Tuple vs kv pv) p :: rest) (tSt c (exec o G φ W (.par is es)) u) := by
  have nd : X.N.Nodup := by rw [E.N]; exact E.nd
  have knd : ∀ {x : Str}, Γ.sc.names.lookup x = some .local → X.env.scope.names.lookup x = some .local := fun {x} z => by rw [E.sc]; exact z
  have nodup : ∀ {i j : Nat} {x y : Str}, i ≠ j → Γ.N[i]? = some x → Γ.N[j]? = some y → x ≠ y := fun {i j x y} n a b e => by subst e; exact n (nodup_ix E.nd a b)
  refine ⟨fun pins s0 σV H D I ⟨H0, A0, A, σ, h, iv, oc⟩ => ?_⟩
  simp only [exec] at oc
  split at oc
  rotate_left
  · exact oc.elim
  rename_i xs h9 ee
  split at oc
  rotate_left
  · exact oc.elim
  rename_i σ' ep
  rcases parD_ok hd with ⟨i, b1, j, b2, rfl, hij⟩ | ⟨i, b1, j, b2, l, b3, rfl, hij, hil, hjl⟩
  · cases ts with
    | nil => simp [parN] at hn
    | cons t1 ts =>
      obtain ⟨x, px, rfl, nx, lx, plx, hn⟩ := parN_cons hn
      cases ts with
      | nil => simp [parN] at hn
      | cons t2 ts =>
        obtain ⟨y, py, rfl, ny, ly, ply, hn⟩ := parN_cons hn
        cases ts with
        | cons _ _ => simp [parN] at hn
        | nil =>
          cases vs with
          | nil => simp at hl
          | cons e1 vs => cases vs with
            | nil => simp at hl
            | cons e2 vs => cases vs with
              | cons _ _ => simp at hl
              | nil =>
                obtain ⟨a, r1, rfl, s1, ck1, hck1⟩ := ckL_cons hck
                obtain ⟨b, r2, rfl, s2, ck2, hck2⟩ := ckL_cons hck1
                obtain ⟨d1, f1, xs1, σ1, rfl, hf1, ep1, rfl⟩ := parS_cons ep
                obtain ⟨d2, f2, xs2, σ2, rfl, hf2, ep2, rfl⟩ := parS_cons ep1
                obtain ⟨rfl, eσ⟩ := parS_nil ep2
                subst eσ
                obtain ⟨k1, ev1, ee1⟩ := evs_cons (Γ := Γ) (x := e1) (r := []) ee
                obtain ⟨k2, ev2, ee2⟩ := evs_cons (Γ := Γ) (x := e1) (r := []) ee1
                obtain ⟨_, rfl⟩ := evs_nil hck2 ee2
                have p1 : PE X e1 (gEv c (ev o G φ a false)) := PE.gen fun A σ h x f h' e => (ev_ok a Γ X E.toEnvOk _ ck1 false _ _ _ _ _ e A).1 rfl
                have p2 : PE X e2 (gEv c (ev o G φ b false)) := PE.gen fun A σ h x f h' e => (ev_ok b Γ X E.toEnvOk _ ck2 false _ _ _ _ _ e A).1 rfl
                have hline : (py.line == px.line) = true := ply
                have hpa := pa_cons p1 (pa_cons p2 pa_nil (star_ok s2)) (star_ok s1)
                obtain ⟨nx', lx', fx⟩ := nm_ok E.toEnvOk lx
                obtain ⟨ny', ly', fy⟩ := nm_ok E.toEnvOk ly
                have hPS : PS X (.Assign [.Tuple [.Name x px, .Name y py] kt pt] (.Tuple [e1, e2] kv pv) p) (tPar i j (tCons (gEv c (ev o G φ a false)) (tCons (gEv c (ev o G φ b false)) tNil))) := by
                  by_cases hloc : X.env.kindOf x = some .local ∧ X.env.kindOf y = some .local
                  · exact ps_par (pos := p) E.calm nd nx' ny' hij hloc.1 hloc.2 hpa (st_two E.kind s1 s2 hloc.1 hloc.2 hline (nodup hij nx ny) h1 h2) sole_tup
                  · exact ps_parC (pos := p) E.calm nd nx' ny' lx' ly' fx fy hpa (st_cell2 hloc)
                refine (pss_cons hPS hu).run pins s0 σV H D I ?_
                refine par_step iv ev1 hf1 fun v1 A1 H1 iv1 al1 sb1 kp1 pn1 _ => ?_
                refine par_step iv1 ev2 hf2 fun v2 A2 H2 iv2 al2 sb2 kp2 pn2 ne2 => ?_
                refine ⟨v1, v2, rfl, ?_⟩
                have pn1' := pn1.keep al2 sb2 kp2
                have ne12 : b2 = true → b1 = true → v2 ≠ v1 := fun hb hb1 z => by
                  subst hb1
                  obtain ⟨a', rfl, _, ma, _⟩ := pn1
                  exact ne2 hb a' ma z
                have iva := iv2.put (i := i) pn1'
                have ivb := iva.put (i := j) (pn2.put iv2.ss.len ne12)
                have hcm := setS_comm (σ := σ2) (a := some (svB b1 d1)) (b := some (svB b2 d2)) hij
                rw [hcm] at ivb
                exact oc A2 _ H2 ivb (al1.trans al2)
  · cases ts with
    | nil => simp [parN] at hn
    | cons t1 ts =>
      obtain ⟨x, px, rfl, nx, lx, plx, hn⟩ := parN_cons hn
      cases ts with
      | nil => simp [parN] at hn
      | cons t2 ts =>
        obtain ⟨y, py, rfl, ny, ly, ply, hn⟩ := parN_cons hn
        cases ts with
        | nil => simp [parN] at hn
        | cons t3 ts =>
          obtain ⟨z, pz, rfl, nz, lz, plz, hn⟩ := parN_cons hn
          cases ts with
          | cons _ _ => simp [parN] at hn
          | nil =>
            cases vs with
            | nil => simp at hl
            | cons e1 vs => cases vs with
              | nil => simp at hl
              | cons e2 vs => cases vs with
                | nil => simp at hl
                | cons e3 vs => cases vs with
                  | cons _ _ => simp at hl
                  | nil =>
                    obtain ⟨a, r1, rfl, s1, ck1, hck1⟩ := ckL_cons hck
                    obtain ⟨b, r2, rfl, s2, ck2, hck2⟩ := ckL_cons hck1
                    obtain ⟨d, r3, rfl, s3, ck3, hck3⟩ := ckL_cons hck2
                    obtain ⟨d1, f1, xs1, σ1, rfl, hf1, ep1, rfl⟩ := parS_cons ep
                    obtain ⟨d2, f2, xs2, σ2, rfl, hf2, ep2, rfl⟩ := parS_cons ep1
                    obtain ⟨d3, f3, xs3, σ3, rfl, hf3, ep3, rfl⟩ := parS_cons ep2
                    obtain ⟨rfl, rfl⟩ := parS_nil ep3
                    obtain ⟨k1, ev1, ee1⟩ := evs_cons (Γ := Γ) (x := e1) (r := []) ee
                    obtain ⟨k2, ev2, ee2⟩ := evs_cons (Γ := Γ) (x := e1) (r := []) ee1
                    obtain ⟨k3, ev3, ee3⟩ := evs_cons (Γ := Γ) (x := e1) (r := []) ee2
                    obtain ⟨_, rfl⟩ := evs_nil hck3 ee3
                    have p1 : PE X e1 (gEv c (ev o G φ a false)) := PE.gen fun A σ h x f h' e => (ev_ok a Γ X E.toEnvOk _ ck1 false _ _ _ _ _ e A).1 rfl
                    have p2 : PE X e2 (gEv c (ev o G φ b false)) := PE.gen fun A σ h x f h' e => (ev_ok b Γ X E.toEnvOk _ ck2 false _ _ _ _ _ e A).1 rfl
                    have p3 : PE X e3 (gEv c (ev o G φ d false)) := PE.gen fun A σ h x f h' e => (ev_ok d Γ X E.toEnvOk _ ck3 false _ _ _ _ _ e A).1 rfl
                    have hline : (py.line == px.line) = true := ply
                    have hline3 : (pz.line == px.line) = true := plz
                    have hpa := pa_cons p1 (pa_cons p2 (pa_cons p3 pa_nil (star_ok s3)) (star_ok s2)) (star_ok s1)
                    obtain ⟨nx', lx', fx⟩ := nm_ok E.toEnvOk lx
                    obtain ⟨ny', ly', fy⟩ := nm_ok E.toEnvOk ly
                    obtain ⟨nz', lz', fz⟩ := nm_ok E.toEnvOk lz
                    have hPS : PS X (.Assign [.Tuple [.Name x px, .Name y py, .Name z pz] kt pt] (.Tuple [e1, e2, e3] kv pv) p) (tPar3 i j l (tCons (gEv c (ev o G φ a false)) (tCons (gEv c (ev o G φ b false)) (tCons (gEv c (ev o G φ d false)) tNil)))) := by
                      by_cases hloc : X.env.kindOf x = some .local ∧ X.env.kindOf y = some .local ∧ X.env.kindOf z = some .local
                      · exact ps_par3 (pos := p) E.calm nd nx' ny' nz' hij hil hjl hloc.1 hloc.2.1 hloc.2.2 hpa (st_three E.kind s1 s2 s3 hloc.1 hloc.2.1 hloc.2.2 hline hline3 (nodup hij nx ny) (nodup hil nx nz) (nodup hjl ny nz) h1 h2) sole_tup
                      · exact ps_par3C (pos := p) E.calm nd nx' ny' nz' lx' ly' lz' fx fy fz hpa (st_cell3 hloc)
                    refine (pss_cons hPS hu).run pins s0 σV H D I ?_
                    refine par_step iv ev1 hf1 fun v1 A1 H1 iv1 al1 sb1 kp1 pn1 _ => ?_
                    refine par_step iv1 ev2 hf2 fun v2 A2 H2 iv2 al2 sb2 kp2 pn2 ne2 => ?_
                    refine par_step iv2 ev3 hf3 fun v3 A3 H3 iv3 al3 sb3 kp3 pn3 ne3 => ?_
                    refine ⟨v1, v2, v3, rfl, ?_⟩
                    have pn1' := (pn1.keep al2 sb2 kp2).keep al3 sb3 kp3
                    have pn2' := pn2.keep al3 sb3 kp3
                    have ne12 : b2 = true → b1 = true → v2 ≠ v1 := fun hb hb1 z => by
                      subst hb1
                      obtain ⟨a', rfl, _, ma, _⟩ := pn1
                      exact ne2 hb a' ma z
                    have ne13 : b3 = true → b1 = true → v3 ≠ v1 := fun hb hb1 z => by
                      subst hb1
                      obtain ⟨a', rfl, _, ma, _⟩ := pn1
                      exact ne3 hb a' (sb2 a' ma) z
                    have ne23 : b3 = true → b2 = true → v3 ≠ v2 := fun hb hb1 z => by
                      subst hb1
                      obtain ⟨a', rfl, _, ma, _⟩ := pn2
                      exact ne3 hb a' ma z
                    have iva := iv3.put (i := i) pn1'
                    have ivb := iva.put (i := j) (pn2'.put iv3.ss.len ne12)
                    have ivc := ivb.put (i := l) ((pn3.put iv3.ss.len ne13).put iva.ss.len ne23)
                    have hcm : setS (setS (setS σ3 i (some (svB b1 d1))) j (some (svB b2 d2))) l (some (svB b3 d3)) = setS (setS (setS σ3 l (some (svB b3 d3))) j (some (svB b2 d2))) i (some (svB b1 d1)) := by
                      rw [setS_comm hij, setS_comm hil, setS_comm hjl]
                    rw [hcm] at ivc
                    exact oc A3 _ H3 ivc (al1.trans (al2.trans al3))
end
end Og

end
section
set_option Elab.async false
set_option linter.all false
set_option maxRecDepth 100000
/-! Statements: the interpreter is right. -/
namespace Og
open PySem PySem.Spec PyProof.Rows L2
section
variable {c : Cf} {o : Hist → Int → Int} {G : List D} {φ : Nat → List Og.Arg → Hist → RE} {k : Nat} {Γ : Cc} {X : Cx} {W : Nat}
theorem st_ok (E : StEnv c o G φ k Γ X) : ∀ (s : S) (sts rest : List Stmt), ckS s Γ sts = some rest → ∀ u, PSs X rest u → PSs X sts (tSt c (exec o G φ W s) u)
  | .skip, sts, rest, hc, u, hu => by
    simp only [ckS] at hc
    have key : PSs X rest (tSt c (exec o G φ W .skip) u) := hu.mono fun D σV H ⟨H0, A0, A, σ, h, iv, oc⟩ => by
      simp only [exec] at oc
      exact oc A σV H iv .refl
    split at hc
    · cases hc
      exact (pss_cons ps_pass key).mono fun D σV H t => t
    · cases hc; exact key
  | .frz i, sts, rest, hc, u, hu => by
    simp only [ckS] at hc
    cases hc
    refine hu.mono fun D σV H ⟨H0, A0, A, σ, h, iv, oc⟩ => ?_
    simp only [exec] at oc
    split at oc
    · rename_i x g
      obtain ⟨A', iv', al⟩ := iv.frz g
      exact oc A' σV H iv' al
    · exact oc.elim
  | .seq a b, sts, rest, hc, u, hu => by
    simp only [ckS] at hc
    split at hc
    rotate_left
    · cases hc
    rename_i r1 h1
    refine (st_ok E a sts r1 h1 _ (st_ok E b r1 rest hc u hu)).mono fun D σV H ⟨H0, A0, A, σ, h, iv, oc⟩ => ⟨H0, A0, A, σ, h, iv, ?_⟩
    simp only [exec] at oc
    cases er : exec o G φ W a σ h with
    | nx σ1 h1 =>
      rw [er] at oc
      exact fun A' σV' H' iv' al => ⟨H0, A0, A', σ1, h1, iv', oc.al al⟩
    | bk σ1 h1 => rw [er] at oc; exact oc
    | ct σ1 h1 => rw [er] at oc; exact oc
    | ret x f h1 => rw [er] at oc; exact oc
    | no => rw [er] at oc; exact oc
  | .asg tg e, sts, rest, hc, u, hu => by
    simp only [ckS] at hc
    split at hc
    rotate_left
    · cases hc
    rename_i st r
    split at hc
    rotate_left
    · cases hc
    rename_i t v p hst
    split at hc
    rotate_left
    · cases hc
    rename_i hcond
    cases hc
    simp only [Bool.and_eq_true, beq_iff_eq] at hcond
    obtain ⟨htg, hck, hcc, hsb⟩ := hcond
    rw [asAsg_ok hst]
    refine ⟨fun pins s0 σV H D I ⟨H0, A0, A, σ, h, iv, oc⟩ => ?_⟩
    simp only [exec] at oc
    split at oc
    rotate_left
    · exact oc.elim
    rename_i x h1 es
    split at oc
    rotate_left
    · exact oc.elim
    rename_i σ' ea
    obtain ⟨f, ee, n1, n2⟩ := strong_ok es
    have pg := tg_ok (c := c) E.K E.calm E.nd E.N E.sc E.fn tg t htg
    by_cases hnm : isNm tg = true
    · cases tg with
      | nm i =>
        simp only [ckT] at htg
        split at htg
        rotate_left
        · cases htg
        rename_i y py
        have nmo : nmOk Γ i y = true := htg
        obtain ⟨a1, a2, a3⟩ := nm_ok E.toEnvOk nmo
        simp only [asgT] at ea
        cases ea
        refine (pss_cons (s_name (spos := p) E.toEnvOk E.kind iv.wd.bin hck hcc ee a1 a2 a3) hu).run pins s0 σV H D I ⟨iv.ss, iv.wd, fun v H1 k1 w1 r1 => ?_⟩
        exact oc A _ H1 ((iv.keep k1 w1).setD (r1.rv n2 n1)) (Al.kp iv.wd.bin k1)
      | _ => simp [isNm] at hnm
    · have pe := (ev_ok e Γ X E.toEnvOk _ hck false _ _ _ _ _ ee A).1 rfl
      have hsb2 : stB t v = true := by
        rcases Bool.or_eq_true _ _ ▸ hsb with z | z
        · exact absurd z hnm
        · exact z
      cases tg with
      | nm i => exact absurd rfl hnm
      | nil => simp [ckT] at htg
      | cons a b =>
        have htt : ∃ ts kk pp, t = .Tuple ts kk pp := by
          simp only [ckT] at htg
          split at htg
          · exact ⟨_, _, _, rfl⟩
          · cases htg
        obtain ⟨ts, kk, pp, rfl⟩ := htt
        have hsw : swappedStores [.Tuple ts kk pp] v X.env = pure none := by
          unfold stB at hsb2
          split at hsb2
          · rename_i hv; exact st_notTup hv
          · rename_i vs hv
            have hsb3 := (Bool.and_eq_true_iff.mp hsb2)
            cases v <;> simp only [tupVals] at hv <;> cases hv
            exact st_fold hsb3.2
        refine (pss_cons (ps_asg (pos := p) pe pg sole_tup hsw rfl) hu).run pins s0 σV H D I ⟨iv.ss, iv.wd, fun v H1 k1 w1 r1 => ?_⟩
        have iv1 := iv.keep k1 w1
        exact ⟨A, σ, x, σ', ea, r1.rv n2 n1, iv1.ss, fun σV' s' l' o' => oc A σV' H1 (iv1.asg ea s' o') (Al.kp iv.wd.bin k1)⟩
  | .own i e, sts, rest, hc, u, hu => by
    simp only [ckS] at hc
    split at hc
    rotate_left
    · cases hc
    rename_i st r
    split at hc
    rotate_left
    · cases hc
    rename_i t v p hst
    split at hc
    rotate_left
    · cases hc
    rename_i y py hnm
    split at hc
    rotate_left
    · cases hc
    rename_i hcond
    cases hc
    simp only [Bool.and_eq_true, beq_iff_eq] at hcond
    obtain ⟨hn, hck, hcc⟩ := hcond
    rw [asAsg_ok hst, asName_ok hnm]
    refine ⟨fun pins s0 σV H D I ⟨H0, A0, A, σ, h, iv, oc⟩ => ?_⟩
    simp only [exec] at oc
    split at oc
    rotate_left
    · exact oc.elim
    rename_i x h1 ee
    obtain ⟨a1, a2, a3⟩ := nm_ok E.toEnvOk hn
    refine (pss_cons (s_name (spos := p) E.toEnvOk E.kind iv.wd.bin hck hcc ee a1 a2 a3) hu).run pins s0 σV H D I ⟨iv.ss, iv.wd, fun v H1 k1 w1 r1 => ?_⟩
    obtain ⟨a, rfl, iv', al⟩ := iv.setOwn (i := i) k1 w1 r1
    exact oc _ _ H1 iv' al
  | .par is es, sts, rest, hc, u, hu => by
    simp only [ckS] at hc
    split at hc
    rotate_left
    · cases hc
    rename_i st r
    split at hc
    rotate_left
    · cases hc
    rename_i t v p hst
    split at hc
    rotate_left
    · cases hc
    rename_i ts kt pt vs kv pv ht hv
    split at hc
    rotate_left
    · cases hc
    rename_i hcond
    cases hc
    simp only [Bool.and_eq_true, Bool.not_eq_true'] at hcond
    obtain ⟨h1, h2, h3, h4, h5, h6⟩ := hcond
    rw [asAsg_ok hst, asTup_ok ht, asTup_ok hv]
    exact s_par E hu h1 h2 (Nat.eq_of_beq_eq_true h3) h4 h5 h6
  | .aug i op e, sts, rest, hc, u, hu => by
    simp only [ckS] at hc
    split at hc
    rotate_left
    · cases hc
    rename_i y py o' v p r
    split at hc
    rotate_left
    · cases hc
    rename_i hcond
    cases hc
    simp only [Bool.and_eq_true, decide_eq_true_eq] at hcond
    obtain ⟨hn, rfl, hop, hck⟩ := hcond
    refine ⟨fun pins s0 σV H D I ⟨H0, A0, A, σ, h, iv, oc⟩ => ?_⟩
    simp only [exec] at oc
    split at oc
    rotate_left
    · exact oc.elim
    rename_i x gx
    split at oc
    rotate_left
    · exact oc.elim
    rename_i y1 f1 h1 ee
    split at oc
    rotate_left
    · exact oc.elim
    rename_i xi yi
    split at oc
    rotate_left
    · exact oc.elim
    rename_i z fz h2 eb
    obtain ⟨n, rfl, rfl, ip⟩ := ip_bin (X := X) eb (by intro z; subst z; cases hop) (by intro z; subst z; cases hop)
    obtain ⟨a1, a2, a3⟩ := nm_ok E.toEnvOk hn
    have pe := (ev_ok e Γ X E.toEnvOk _ hck false _ _ _ _ _ ee A).1 rfl
    obtain ⟨vx, hvx, rx⟩ := iv.ss.at_ i _ gx
    refine (pss_cons (ps_aug (by rw [E.N]; exact E.nd) a1 a2 pe ip a3) hu).run pins s0 σV H D I ⟨vx, hvx, iv.ss, iv.wd, fun v H1 k1 w1 r1 => ⟨?_, r1.wr.int, ?_⟩⟩
    · cases rx; rfl
    · exact oc A _ H1 ((iv.keep k1 w1).setD (Rv.int _)) (Al.kp iv.wd.bin k1)
  | .setsub i ix e, sts, rest, hc, u, hu => by
    simp only [ckS] at hc
    split at hc
    rotate_left
    · cases hc
    rename_i st r
    split at hc
    rotate_left
    · cases hc
    rename_i t v p hst
    split at hc
    rotate_left
    · cases hc
    rename_i y py ie q hsub
    split at hc
    rotate_left
    · cases hc
    rename_i hcond
    cases hc
    simp only [Bool.and_eq_true] at hcond
    obtain ⟨hv, hsl, hix, hck⟩ := hcond
    rw [asAsg_ok hst, asSubN_ok hsub]
    refine ⟨fun pins s0 σV H D I ⟨H0, A0, A, σ, h, iv, oc⟩ => ?_⟩
    simp only [exec] at oc
    split at oc
    rotate_left
    · exact oc.elim
    rename_i x h1 es
    split at oc
    rotate_left
    · exact oc.elim
    rename_i kx h2 ek
    split at oc
    rotate_left
    · exact oc.elim
    rename_i x0 g0
    split at oc
    rotate_left
    · exact oc.elim
    rename_i x1 eset
    obtain ⟨f, ee, n1, n2⟩ := strong_ok es
    have pe := (ev_ok e Γ X E.toEnvOk _ hck false _ _ _ _ _ ee A).1 rfl
    have pi := (ev_ok ix Γ X E.toEnvOk _ hix false _ _ _ _ _ ek A).1 rfl
    have po := e_own (c := c) (A := A) (h := h1) (pos := py) E.toEnvOk hv g0
    have ha : ∀ v, assign (.Subscript (.Name y py) ie q) X.env v = (do
        let ov ← holding [v] (eval (.Name y py) X.env)
        let iv ← holding [v, ov] (eval ie X.env)
        standAt q
        holding [v, ov, iv] (setItem ov iv v)
        release [v, ov, iv] []) := by
      intro v
      cases ie <;> first | rfl | cases hsl
    refine (pss_cons (ps_asg (pos := p) pe (pg_sub po pi (set_v (c := c) (A := A) eset E.room2) ha) sole_sub st_sub rfl) hu).run pins s0 σV H D I ⟨iv.ss, iv.wd, fun v H1 k1 w1 r1 => ?_⟩
    have iv1 := iv.keep k1 w1
    refine ⟨iv1.ss, w1, fun a hva nb ma ow => ⟨iv1.ss, w1, fun iv0 H2 k2 w2 r2 => ?_⟩⟩
    have iv2 := iv1.keep k2 w2
    have ow2 := ow.keep iv.wd.bin nb k2
    refine ⟨a, rfl, ma, ow2, r2, (r1.rv n2 n1).keep iv.wd.bin k2, fun oo ow3 => ?_⟩
    obtain ⟨iv3, al3⟩ := iv2.write g0 hva ow3
    exact oc A σV _ iv3 ((Al.kp iv.wd.bin (k1.trans k2)).trans al3)
  | .augsub i op ix e, sts, rest, hc, u, hu => by
    simp only [ckS] at hc
    split at hc
    rotate_left
    · cases hc
    rename_i y py ie q o' v p r
    split at hc
    rotate_left
    · cases hc
    rename_i hcond
    cases hc
    simp only [Bool.and_eq_true, decide_eq_true_eq] at hcond
    obtain ⟨hv, rfl, hop, hsl, hix, hck⟩ := hcond
    refine ⟨fun pins s0 σV H D I ⟨H0, A0, A, σ, h, iv, oc⟩ => ?_⟩
    simp only [exec] at oc
    split at oc
    rotate_left
    · exact oc.elim
    rename_i x0 g0
    split at oc
    rotate_left
    · exact oc.elim
    rename_i kx h1 ek
    split at oc
    rotate_left
    · exact oc.elim
    rename_i ai fa h2 esub
    split at oc
    rotate_left
    · exact oc.elim
    rename_i bi fb h3 ee
    split at oc
    rotate_left
    · exact oc.elim
    rename_i z fz h4 eb
    split at oc
    rotate_left
    · exact oc.elim
    rename_i x1 eset
    obtain ⟨n, rfl, rfl, ip⟩ := ip_bin (X := X) eb (by intro z; subst z; cases hop) (by intro z; subst z; cases hop)
    have hh : h2 = h1 := by
      have key : ∀ {x k z : PyData} {f : Fl} {h h' : Hist}, subV x k h = .ok z f h' → h' = h := fun {x k z f h h'} e => by
        unfold subV at e
        split at e
        · unfold subL at e; repeat' split at e
          all_goals first | (cases e; rfl) | cases e
        · unfold subL at e; repeat' split at e
          all_goals first | (cases e; rfl) | cases e
        · repeat' split at e
          all_goals first | (cases e; rfl) | cases e
        · cases e
      exact key esub
    subst hh
    have pi := (ev_ok ix Γ X E.toEnvOk _ hix false _ _ _ _ _ ek A).1 rfl
    have pe := (ev_ok e Γ X E.toEnvOk _ hck false _ _ _ _ _ ee A).1 rfl
    have po := e_own (c := c) (A := A) (h := h) (pos := py) E.toEnvOk hv g0
    refine (pss_cons (ps_augS po pi (get_v (c := c) (A := A) esub E.room2) pe ip (set_v (c := c) (A := A) eset E.room2) (fun ov iv new => by cases ie <;> first | rfl | cases hsl)) hu).run pins s0 σV H D I ⟨iv.ss, iv.wd, fun a hva nb ma ow => ⟨iv.ss, iv.wd, fun iv0 H1 k1 w1 r1 => ?_⟩⟩
    have iv1 := iv.keep k1 w1
    have ow1 := ow.keep iv.wd.bin nb k1
    refine ⟨a, rfl, nb, ow1, r1, fun xv rxv => ⟨iv1.ss, w1, fun yv H2 k2 w2 r2 => ⟨?_, r2.wr.int, ?_⟩⟩⟩
    · cases rxv; rfl
    have iv2 := iv1.keep k2 w2
    refine ⟨a, rfl, ma, ow1.keep iv.wd.bin nb k2, Rv.keep iv.wd.bin k2 r1, Rv.int _, fun oo ow3 => ?_⟩
    obtain ⟨iv3, al3⟩ := iv2.write g0 hva ow3
    exact oc A σV _ iv3 ((Al.kp iv.wd.bin (k1.trans k2)).trans al3)
  | .app i e, sts, rest, hc, u, hu => by
    simp only [ckS] at hc
    split at hc
    rotate_left
    · cases hc
    rename_i st r
    split at hc
    rotate_left
    · cases hc
    rename_i ee p hst
    split at hc
    rotate_left
    · cases hc
    rename_i y py m ap v q hm
    split at hc
    rotate_left
    · cases hc
    rename_i hcond
    cases hc
    simp only [Bool.and_eq_true] at hcond
    obtain ⟨hv, hmm, hend, hns, hck⟩ := hcond
    have := eqS_iff hmm
    subst this
    rw [asExp_ok hst, asMethN_ok hm]
    refine ⟨fun pins s0 σV H D I ⟨H0, A0, A, σ, h, iv, oc⟩ => ?_⟩
    simp only [exec] at oc
    split at oc
    rotate_left
    · exact oc.elim
    rename_i xs g0
    split at oc
    rotate_left
    · exact oc.elim
    rename_i x h1 es
    split at oc
    rotate_left
    · exact oc.elim
    rename_i hlen
    obtain ⟨f, ee, n1, n2⟩ := strong_ok es
    have pe := (ev_ok e Γ X E.toEnvOk _ hck false _ _ _ _ _ ee A).1 rfl
    have po := e_own (c := c) (A := A) (h := h) (pos := py) E.toEnvOk hv g0
    refine (pss_cons (ps_expr (pe_bm PySem.F.plainAttrs_list PySem.F.slot_list_append PySem.F.type_list_append mt_append po (pa_cons pe pa_nil (star_ok hns)) rfl (few1 hns) hend (star_ok hns) rfl) (sw_no rfl)) hu).run pins s0 σV H D I ⟨iv.ss, iv.wd, fun a hva nb ma ow => ?_⟩
    cases ow with
    | @lst vs _ ha ra =>
      refine ⟨.inl ⟨rfl, _, SqL.of ha⟩, iv.ss, iv.wd, fun v H1 k1 w1 r1 => ?_⟩
      have iv1 := iv.keep k1 w1
      have ha1 : H1 a = some (.lst vs) := k1 a _ nb ha
      have hl : xs.length < 16777216 := Nat.blt_eq.mp hlen
      refine ⟨a, vs, v, rfl, rfl, ha1, by rw [ra.length, sizeLine_eq]; exact hl, ?_⟩
      obtain ⟨iv3, al3⟩ := iv1.write (x' := .list (xs ++ [x])) (o := .lst (vs ++ [v])) g0 hva (.lst upd_same (((ra.keep iv.wd.bin k1).append (.cons (r1.rv n2 n1) .nil)).step (al_write ma)))
      exact oc A σV _ iv3 ((Al.kp iv.wd.bin k1).trans al3)
  | .ext i e, sts, rest, hc, u, hu => by
    simp only [ckS] at hc
    split at hc
    rotate_left
    · cases hc
    rename_i st r
    split at hc
    rotate_left
    · cases hc
    rename_i ee p hst
    split at hc
    rotate_left
    · cases hc
    rename_i y py m ap v q hm
    split at hc
    rotate_left
    · cases hc
    rename_i hcond
    cases hc
    simp only [Bool.and_eq_true] at hcond
    obtain ⟨hv, hmm, hend, hns, hck⟩ := hcond
    have := eqS_iff hmm
    subst this
    rw [asExp_ok hst, asMethN_ok hm]
    refine ⟨fun pins s0 σV H D I ⟨H0, A0, A, σ, h, iv, oc⟩ => ?_⟩
    simp only [exec] at oc
    split at oc
    rotate_left
    · exact oc.elim
    rename_i xs g0
    split at oc
    rotate_left
    · exact oc.elim
    rename_i ys f h1 ee
    split at oc
    rotate_left
    · exact oc.elim
    rename_i hlen
    have pe := (ev_ok e Γ X E.toEnvOk _ hck false _ _ _ _ _ ee A).1 rfl
    have po := e_own (c := c) (A := A) (h := h) (pos := py) E.toEnvOk hv g0
    refine (pss_cons (ps_expr (pe_bm PySem.F.plainAttrs_list PySem.F.slot_list_extend PySem.F.type_list_extend mt_extend po (pa_cons pe pa_nil (star_ok hns)) rfl (few1 hns) hend (star_ok hns) rfl) (sw_no rfl)) hu).run pins s0 σV H D I ⟨iv.ss, iv.wd, fun a hva nb ma ow => ?_⟩
    cases ow with
    | @lst vs _ ha ra =>
      refine ⟨.inl ⟨rfl, _, SqL.of ha⟩, iv.ss, iv.wd, fun v H1 k1 w1 r1 => ?_⟩
      have iv1 := iv.keep k1 w1
      have ha1 : H1 a = some (.lst vs) := k1 a _ nb ha
      obtain ⟨b, zs, rfl, hb, rb⟩ := r1.wr.lst
      have hl := lenOk_iff hlen
      refine ⟨a, b, vs, zs, rfl, rfl, ha1, hb, by rw [ra.length, rb.length]; exact hl, ?_⟩
      obtain ⟨iv3, al3⟩ := iv1.write (x' := .list (xs ++ ys)) (o := .lst (vs ++ zs)) g0 hva (.lst upd_same (((ra.keep iv.wd.bin k1).append rb).step (al_write ma)))
      exact oc A σV _ iv3 ((Al.kp iv.wd.bin k1).trans al3)
  | .pop0 i, sts, rest, hc, u, hu => by
    simp only [ckS] at hc
    split at hc
    rotate_left
    · cases hc
    rename_i st r
    split at hc
    rotate_left
    · cases hc
    rename_i ee p hst
    split at hc
    rotate_left
    · cases hc
    rename_i y py m ap q hm
    split at hc
    rotate_left
    · cases hc
    rename_i hcond
    cases hc
    simp only [Bool.and_eq_true] at hcond
    obtain ⟨hv, hmm, hend⟩ := hcond
    have := eqS_iff hmm
    subst this
    rw [asExp_ok hst, asMethN_ok hm]
    refine ⟨fun pins s0 σV H D I ⟨H0, A0, A, σ, h, iv, oc⟩ => ?_⟩
    simp only [exec] at oc
    split at oc
    rotate_left
    · exact oc.elim
    rename_i xs g0
    split at oc
    rotate_left
    · exact oc.elim
    rename_i l yl el
    have po := e_own (c := c) (A := A) (h := h) (pos := py) E.toEnvOk hv g0
    refine (pss_cons (ps_expr (pe_bm0 PySem.F.plainAttrs_list PySem.F.slot_list_pop PySem.F.type_list_pop mt_pop po rfl hend) (sw_no rfl)) hu).run pins s0 σV H D I ⟨iv.ss, iv.wd, fun a hva nb ma ow => ?_⟩
    cases ow with
    | @lst vs _ ha ra =>
      refine ⟨.inl ⟨rfl, _, SqL.of ha⟩, ?_⟩
      obtain ⟨w, hw, rw', rl⟩ := lastD_rv el ra
      refine ⟨a, vs, w, rfl, rfl, ha, hw, ?_⟩
      obtain ⟨iv3, al3⟩ := iv.write (x' := .list l) (o := .lst vs.dropLast) g0 hva (.lst upd_same (rl.step (al_write ma)))
      exact oc A σV _ iv3 al3
  | .popTo j i, sts, rest, hc, u, hu => by
    simp only [ckS] at hc
    split at hc
    rotate_left
    · cases hc
    rename_i st r
    split at hc
    rotate_left
    · cases hc
    rename_i t v p hst
    split at hc
    rotate_left
    · cases hc
    rename_i z pz y py m ap q hnm hm
    split at hc
    rotate_left
    · cases hc
    rename_i hcond
    cases hc
    simp only [Bool.and_eq_true] at hcond
    obtain ⟨hn, hv, hmm, hend⟩ := hcond
    have := eqS_iff hmm
    subst this
    rw [asAsg_ok hst, asName_ok hnm, asMethN_ok hm]
    refine ⟨fun pins s0 σV H D I ⟨H0, A0, A, σ, h, iv, oc⟩ => ?_⟩
    simp only [exec] at oc
    split at oc
    rotate_left
    · exact oc.elim
    rename_i xs g0
    split at oc
    rotate_left
    · exact oc.elim
    rename_i l yl el
    obtain ⟨a1, a2, a3⟩ := nm_ok E.toEnvOk hn
    have po := e_own (c := c) (A := A) (h := h) (pos := py) E.toEnvOk hv g0
    refine (pss_cons (ps_set (pos := p) (by rw [E.N]; exact E.nd) a1 a2 (pe_bm0 PySem.F.plainAttrs_list PySem.F.slot_list_pop PySem.F.type_list_pop mt_pop po rfl hend) (sw_no rfl) a3) hu).run pins s0 σV H D I ⟨iv.ss, iv.wd, fun a hva nb ma ow => ?_⟩
    cases ow with
    | @lst vs _ ha ra =>
      refine ⟨.inl ⟨rfl, _, SqL.of ha⟩, ?_⟩
      obtain ⟨w, hw, rw', rl⟩ := lastD_rv el ra
      refine ⟨a, vs, w, rfl, rfl, ha, hw, ?_⟩
      obtain ⟨iv3, al3⟩ := iv.write (x' := .list l) (o := .lst vs.dropLast) g0 hva (.lst upd_same (rl.step (al_write ma)))
      exact oc A _ _ (iv3.setD (rw'.step (al_write ma))) al3
  | .ifs t a b, sts, rest, hc, u, hu => by
    simp only [ckS] at hc
    split at hc
    rotate_left
    · cases hc
    rename_i e x y p r
    split at hc
    rotate_left
    · cases hc
    rename_i h1 h2
    split at hc
    rotate_left
    · cases hc
    rename_i hck
    cases hc
    have pa := st_ok E a x [] h1 _ pss_nil
    have pb := st_ok E b y [] h2 _ pss_nil
    refine ⟨fun pins s0 σV H D I ⟨H0, A0, A, σ, h, iv, oc⟩ => ?_⟩
    simp only [exec] at oc
    split at oc
    · rename_i f1 h1 et
      obtain ⟨b1, q1, pt⟩ := (ev_ok t Γ X E.toEnvOk _ hck true _ _ _ _ _ et A).2 rfl
      cases q1
      refine (pss_cons (ps_if pt pa pb) hu).run pins s0 σV H D I ⟨iv.ss, iv.wd, fun H1 k1 w1 => ?_⟩
      refine cast (if_pos rfl).symm ?_
      have oc1 := oc.al (Al.kp iv.wd.bin k1)
      refine ⟨H0, A0, A, σ, h1, iv.keep k1 w1, ?_⟩
      cases er : exec o G φ W a σ h1 with
      | nx σ1 h2 => rw [er] at oc1; exact oc1
      | bk σ1 h2 => rw [er] at oc1; exact oc1
      | ct σ1 h2 => rw [er] at oc1; exact oc1
      | ret x f h2 => rw [er] at oc1; exact oc1
      | no => rw [er] at oc1; exact oc1
    · rename_i f1 h1 et
      obtain ⟨b1, q1, pt⟩ := (ev_ok t Γ X E.toEnvOk _ hck true _ _ _ _ _ et A).2 rfl
      cases q1
      refine (pss_cons (ps_if pt pa pb) hu).run pins s0 σV H D I ⟨iv.ss, iv.wd, fun H1 k1 w1 => ?_⟩
      refine cast (if_neg (by decide)).symm ?_
      have oc1 := oc.al (Al.kp iv.wd.bin k1)
      refine ⟨H0, A0, A, σ, h1, iv.keep k1 w1, ?_⟩
      cases er : exec o G φ W b σ h1 with
      | nx σ1 h2 => rw [er] at oc1; exact oc1
      | bk σ1 h2 => rw [er] at oc1; exact oc1
      | ct σ1 h2 => rw [er] at oc1; exact oc1
      | ret x f h2 => rw [er] at oc1; exact oc1
      | no => rw [er] at oc1; exact oc1
    · exact oc.elim
  | .for_ tg kd its body, sts, rest, hc, u, hu => by
    simp only [ckS] at hc
    split at hc
    rotate_left
    · cases hc
    rename_i t iter bd p r
    split at hc
    rotate_left
    · cases hc
    rename_i xs hi hbd
    split at hc
    rotate_left
    · cases hc
    rename_i hcond
    cases hc
    simp only [Bool.and_eq_true] at hcond
    obtain ⟨hns, hits, htg⟩ := hcond
    have pb := st_ok E body bd [] hbd _ pss_nil
    have pg := tg_ok (c := c) E.K E.calm E.nd E.N E.sc E.fn tg t htg
    refine ⟨fun pins s0 σV H D I ⟨H0, A0, A, σ, h, iv, oc⟩ => ?_⟩
    simp only [exec] at oc
    split at oc
    rotate_left
    · exact oc.elim
    rename_i as h1 ea
    split at oc
    rotate_left
    · exact oc.elim
    rename_i l el
    split at oc
    rotate_left
    · exact oc.elim
    rename_i ys h2 ew
    have hlen := ckL_len hits ea
    have pi := walk_ok (tg := t) E.toEnvOk hi (ckL_star hits) hlen (syl_steady (evs_ok its Γ X E.toEnvOk _ hits σ h as _ ea A) el) (fun e1 he d hd => by
      subst he
      subst hd
      obtain ⟨f1, has, nw⟩ := steady1 el
      subst has
      exact sy1_steady (one_ok its Γ X E.toEnvOk _ hits σ h d f1 h1 ea A) nw) (fun a z => z) ew
    refine (pss_cons (ps_for E.hp E.calm pi pg pb (set_ok hns)) hu).run pins s0 σV H D I ⟨iv.ss, iv.wd, fun J H1 k1 w1 gs => ?_⟩
    have iv1 := iv.keep k1 w1
    have oc1 := oc.al (Al.kp iv.wd.bin k1)
    refine ⟨fun i m σV' H' => m = ys.length - i ∧ i ≤ ys.length ∧ ∃ A' σ' h', Iv c H0 A0 A' σ' h' σV' H' ∧ Al A A' H1 H' ∧ Oc c H0 A0 A' H' D (u D) (forL tg (exec o G φ W body) (ys.drop i) σ' h'),
      ⟨_, rfl, Nat.zero_le _, A, σ, h2, iv1, .refl, by simpa using oc1⟩, ?_⟩
    rintro i m σV' H' ⟨rfl, hi0, A', σ', h', iv', al', oc'⟩
    have g := gs A' H' i al'.1 iv'.wd.dom (fun a u n e => al'.2 a u n e)
    cases ed : ys.drop i with
    | nil =>
      rw [ed] at oc'
      simp only [forL] at oc'
      have hle : ys.length ≤ i := by simpa using ed
      exact .inl ⟨g.2 hle, oc' A' σV' H' iv' .refl⟩
    | cons y r =>
      obtain ⟨hn, hdr, hlt⟩ := nth_drop ed
      obtain ⟨hgo, hy⟩ := g.1 y hn
      rw [ed] at oc'
      simp only [forL] at oc'
      split at oc'
      rotate_left
      · exact oc'.elim
      rename_i σ1 eσ
      refine .inr ⟨hgo, fun σV2 H2 => ∃ A2 σ2 h2, Iv c H0 A0 A2 σ2 h2 σV2 H2 ∧ Al A A2 H1 H2 ∧ Oc c H0 A0 A2 H2 D (u D) (forL tg (exec o G φ W body) (ys.drop (i + 1)) σ2 h2),
        fun σV2 H2 n2 => ⟨ys.length - (i + 1), by omega, rfl, hlt, n2⟩, fun x Hy yl => ?_⟩
      obtain ⟨ext, rx⟩ := hy x Hy yl
      have ivy := iv'.ext ext
      have aly : Al A' A' H' Hy := Al.kp iv'.wd.bin (fun a u _ e => ext a u e)
      refine ⟨A', σ', y, σ1, eσ, rx, ivy.ss, fun σV1 s1 l1 o1 => ?_⟩
      have iva := ivy.asg eσ s1 o1
      refine ⟨H0, A0, A', σ1, h', iva, ?_⟩
      rw [hdr]
      cases er : exec o G φ W body σ1 h' with
      | nx σ2 h2 =>
        rw [er] at oc'
        exact fun A2 σV2 H2 iv2 al2 => ⟨A2, σ2, h2, iv2, al'.trans (aly.trans al2), oc'.al (aly.trans al2)⟩
      | ct σ2 h2 =>
        rw [er] at oc'
        exact fun A2 σV2 H2 iv2 al2 => ⟨A2, σ2, h2, iv2, al'.trans (aly.trans al2), oc'.al (aly.trans al2)⟩
      | bk σ2 h2 =>
        rw [er] at oc'
        exact fun A2 σV2 H2 iv2 al2 => oc' A2 σV2 H2 iv2 (aly.trans al2)
      | ret x f h2 => rw [er] at oc'; exact oc'
      | no => rw [er] at oc'; exact oc'.elim
  | .while_ t body, sts, rest, hc, u, hu => by
    simp only [ckS] at hc
    split at hc
    rotate_left
    · cases hc
    rename_i e bd p r
    split at hc
    rotate_left
    · cases hc
    rename_i hbd
    split at hc
    rotate_left
    · cases hc
    rename_i hck
    cases hc
    have pb := st_ok E body bd [] hbd _ pss_nil
    have pt : PT X e (gTs c (ev o G φ t true)) := ⟨fun pins s σV H Q I ⟨A, σ, h, b, f, h', e1, tt⟩ => by
      obtain ⟨b1, q1, pp⟩ := (ev_ok t Γ X E.toEnvOk _ hck true _ _ _ _ _ e1 A).2 rfl
      cases q1
      exact pp.run pins s σV H Q I tt⟩
    refine ⟨fun pins s0 σV H D I ⟨H0, A0, A, σ, h, iv, oc⟩ => ?_⟩
    simp only [exec] at oc
    refine (pss_cons (ps_while E.hp pt pb) hu).run pins s0 σV H D I ?_
    refine ⟨fun m σV' H' => ∃ A' σ' h', Iv c H0 A0 A' σ' h' σV' H' ∧ Oc c H0 A0 A' H' D (u D) (whileL (ev o G φ t true) (exec o G φ W body) m σ' h'), ⟨W, A, σ, h, iv, oc⟩, ?_⟩
    rintro m σV' H' ⟨A', σ', h', iv', oc'⟩
    cases m with
    | zero => simp only [whileL] at oc'; exact oc'.elim
    | succ n =>
      simp only [whileL] at oc'
      split at oc'
      · rename_i f1 h1 et
        refine ⟨A', σ', h', true, f1, h1, et, iv'.ss, iv'.wd, fun H1 k1 w1 => ?_⟩
        refine cast (if_pos rfl).symm ?_
        have iv1 := iv'.keep k1 w1
        have al1 : Al A' A' H' H1 := Al.kp iv'.wd.bin k1
        refine ⟨fun σV2 H2 => ∃ A2 σ2 h2, Iv c H0 A0 A2 σ2 h2 σV2 H2 ∧ Oc c H0 A0 A2 H2 D (u D) (whileL (ev o G φ t true) (exec o G φ W body) n σ2 h2), fun σV2 H2 n2 => ⟨n, Nat.lt_succ_self _, n2⟩, H0, A0, A', σ', h1, iv1, ?_⟩
        cases er : exec o G φ W body σ' h1 with
        | nx σ2 h2 =>
          rw [er] at oc'
          exact fun A2 σV2 H2 iv2 al2 => ⟨A2, σ2, h2, iv2, oc'.al (al1.trans al2)⟩
        | ct σ2 h2 =>
          rw [er] at oc'
          exact fun A2 σV2 H2 iv2 al2 => ⟨A2, σ2, h2, iv2, oc'.al (al1.trans al2)⟩
        | bk σ2 h2 =>
          rw [er] at oc'
          exact fun A2 σV2 H2 iv2 al2 => oc' A2 σV2 H2 iv2 (al1.trans al2)
        | ret x f h2 => rw [er] at oc'; exact oc'
        | no => rw [er] at oc'; exact oc'.elim
      · rename_i f1 h1 et
        refine ⟨A', σ', h', false, f1, h1, et, iv'.ss, iv'.wd, fun H1 k1 w1 => ?_⟩
        refine cast (if_neg (by decide)).symm ?_
        exact oc' A' σV' H1 (iv'.keep k1 w1) (Al.kp iv'.wd.bin k1)
      · exact oc'.elim
  | .ret e, sts, rest, hc, u, hu => by
    simp only [ckS] at hc
    split at hc
    rotate_left
    · cases hc
    rename_i v p r
    split at hc
    rotate_left
    · cases hc
    rename_i hck
    cases hc
    refine ⟨fun pins s0 σV H D I ⟨H0, A0, A, σ, h, iv, oc⟩ => ?_⟩
    simp only [exec] at oc
    have key : ∀ x f h1, ev o G φ e false σ h = .ok x f h1 → f ≠ .wk → f ≠ .ct → (∀ v H', Kp c.bx H0 H' → Wd c H' A0 h1 → Vl c A0 H0 H' v x f → D.rt v H') → wpAny (model X.prog X.w) X.A (execs (.Return (some v) p :: rest) X.env) (SP X pins D) X.xe s0 := fun x f h1 ee n1 n2 q => by
      have pe := (ev_ok e Γ X E.toEnvOk _ hck false _ _ _ _ _ ee A).1 rfl
      refine (pss_cons (ps_ret pe) hu).run pins s0 σV H D I ⟨iv.ss, iv.wd, fun v H1 k1 w1 r1 => q v H1 (iv.kp.trans k1) ⟨fun a ha => w1.dom a (iv.sup a ha), iv.b0, w1.box⟩ ?_⟩
      · cases f with
        | wk => exact absurd rfl n1
        | ct => exact absurd rfl n2
        | pl => exact Rv.sub iv.sup r1
        | fr =>
          obtain ⟨a, rfl, hn, na, ow⟩ := r1
          exact ⟨a, rfl, iv.kp.none (iv.wd.bin.ne na) hn, fun z => na (iv.sup a z), ow.sub fun b hb => by
            rcases List.mem_cons.mp hb with z | z
            · subst z; exact List.mem_cons_self ..
            · exact List.mem_cons_of_mem _ (iv.sup b z)⟩
    split at oc
    · exact oc.elim
    · exact oc.elim
    · rename_i x f h1 n1 n2 ee
      exact key x f h1 ee (fun z => by subst z; exact n1 rfl) (fun z => by subst z; exact n2 rfl) oc
    · exact oc.elim
  | .retOwn i, sts, rest, hc, u, hu => by
    simp only [ckS] at hc
    split at hc
    rotate_left
    · cases hc
    rename_i y py p r
    split at hc
    rotate_left
    · cases hc
    rename_i hv
    cases hc
    refine ⟨fun pins s0 σV H D I ⟨H0, A0, A, σ, h, iv, oc⟩ => ?_⟩
    simp only [exec] at oc
    split at oc
    rotate_left
    · exact oc.elim
    rename_i x g0
    have po := e_own (c := c) (A := A) (h := h) (pos := py) E.toEnvOk hv g0
    refine (pss_cons (ps_ret po) hu).run pins s0 σV H D I ⟨iv.ss, iv.wd, fun a hva nb ma ow => ?_⟩
    obtain ⟨ho, na0⟩ := iv.own i x a g0 hva
    refine oc _ H iv.kp ⟨fun a ha => iv.wd.dom a (iv.sup a ha), iv.b0, iv.wd.box⟩ ⟨a, rfl, ho, na0, ow.sub fun b hb => ?_⟩
    · rcases List.mem_cons.mp hb with z | z
      · subst z; exact ma
      · exact iv.sup b z
  | .brk, sts, rest, hc, u, hu => by
    simp only [ckS] at hc
    split at hc
    rotate_left
    · cases hc
    cases hc
    refine (pss_cons ps_break hu).mono fun D σV H ⟨H0, A0, A, σ, h, iv, oc⟩ => ?_
    simp only [exec] at oc
    exact oc A σV H iv .refl
  | .cont, sts, rest, hc, u, hu => by
    simp only [ckS] at hc
    split at hc
    rotate_left
    · cases hc
    cases hc
    refine (pss_cons ps_continue hu).mono fun D σV H ⟨H0, A0, A, σ, h, iv, oc⟩ => ?_
    simp only [exec] at oc
    exact oc A σV H iv .refl
  | .exp e, sts, rest, hc, u, hu => by
    simp only [ckS] at hc
    split at hc
    rotate_left
    · cases hc
    rename_i st r
    split at hc
    rotate_left
    · cases hc
    rename_i v p hst
    split at hc
    rotate_left
    · cases hc
    rename_i hcond
    cases hc
    simp only [Bool.and_eq_true, Bool.not_eq_true'] at hcond
    rw [asExp_ok hst]
    refine ⟨fun pins s0 σV H D I ⟨H0, A0, A, σ, h, iv, oc⟩ => ?_⟩
    simp only [exec] at oc
    split at oc
    rotate_left
    · exact oc.elim
    rename_i x f h1 ee
    have pe := (ev_ok e Γ X E.toEnvOk _ hcond.1 false _ _ _ _ _ ee A).1 rfl
    refine (pss_cons (ps_expr pe (sw_no hcond.2)) hu).run pins s0 σV H D I ⟨iv.ss, iv.wd, fun v H1 k1 w1 r1 => ?_⟩
    exact oc A σV H1 (iv.keep k1 w1) (Al.kp iv.wd.bin k1)
  | .bad, sts, rest, hc, u, hu => ⟨fun pins s0 σV H D I ⟨H0, A0, A, σ, h, iv, oc⟩ => by
    simp only [exec] at oc
    exact oc.elim⟩
  | .rem _ _, sts, rest, hc, u, hu => by simp [ckS] at hc
  | .pop1 _ _, sts, rest, hc, u, hu => by simp [ckS] at hc
  | .ins _ _ _, sts, rest, hc, u, hu => by simp [ckS] at hc
end
end Og

end
section
set_option Elab.async false
set_option linter.all false
set_option maxRecDepth 100000
/-! Defs: the interpreter is right. -/
namespace Og
open PySem PySem.Spec PyProof.Rows L2
/-- a def of the text and its own form -/
structure FnT where
  name : Str
  ps : List Str
  N : List Str
  args : Arguments
  bd : List Stmt
  sc : Scope
  body : S
  here : Bool := true
instance : Inhabited FnT := ⟨⟨"", [], [], ⟨[], [], none, [], [], none, []⟩, [], ⟨.function, [], false, false, []⟩, .skip, true⟩⟩
/-- a number that this text has no def for -/
def noF : FnT := ⟨"", [], [], ⟨[], [], none, [], [], none, []⟩, [], ⟨.function, [], false, false, []⟩, .bad, false⟩
def FnT.def (t : FnT) : Og.Def := ⟨t.ps.length, t.N.length, t.body⟩
/-- the text's common things -/
structure Tx where
  T : List FnT
  gl : List Str
  kw : List (Nat × List Str × List Nat)
  G : List D
def Tx.fs (x : Tx) : List (Str × List Str) := x.T.map fun t => (t.name, t.ps)
def Tx.cc (x : Tx) (t : FnT) : Cc := ⟨t.N, t.sc, fun _ => true, x.gl, x.fs, x.kw⟩
def Tx.F (x : Tx) : List Og.Def := x.T.map FnT.def
/-- the look at a def -/
def isNil : Option (List Stmt) → Bool
  | some [] => true
  | _ => false
def Tx.ckF (x : Tx) (t : FnT) : Bool := match t.here with
  | true => isNil (ckS t.body (x.cc t) t.bd) && C8.scC t.N t.ps t.sc
  | false => eqS t.name ""
def Tx.ck (x : Tx) : Bool := x.T.all fun t => x.ckF t
/-- what the head says of the module -/
structure TxOk (x : Tx) (K : PySem.W.Frag) (w : World) (mg : Str → Option Value) : Prop where
  blt : ∀ n ∈ bltNames, mg n = none
  glo : ∀ i n d, x.gl[i]? = some n → nth x.G i = some d → neS n = true → ∃ u v, mg n = some u ∧ RelV v u ∧ ∀ c : Cf, c.K = K → c.w = w → GlR c v d
  fns : ∀ f t, x.T[f]? = some t → t.here = true → ∃ fa fd, FunD K t.name t.name t.args t.bd t.sc [] [] fa fd ∧ mg t.name = some (.ref fa) ∧ Binds K fd t.ps [] ∧
    ∀ ks pm, (f, ks, pm) ∈ x.kw → KBinds K fd t.ps ks (permG pm) (permG pm)
section
variable {x : Tx} {P : Program} {w : World} {K : PySem.W.Frag} {mg : Str → Option Value} {base : Heap} {o : Hist → Int → Int} {W : Nat}
theorem pad_at {c : Cf} {H : Hp} {A : List Addr} : ∀ {n : Nat} {args : List Og.Arg} {vs : List V} {i : Nat} {s : SV}, ArL c H A vs args → passes args = true → getS (padS n args) i = some s → ∃ v, vs[i]? = some v ∧ SvR c H A v s
  | 0, args, vs, i, s, r, hp, e => by simp [padS, getS] at e
  | n + 1, [], vs, i, s, r, hp, e => by
    have : ∀ (m : Nat) (i : Nat), getS (padS m []) i = none := by
      intro m
      induction m with
      | zero => intro i; rfl
      | succ m ih => intro i; cases i with
        | zero => rfl
        | succ i => exact ih i
    rw [this] at e; cases e
  | n + 1, a :: args, _ :: _, 0, s, .cons r t, hp, e => by
    simp only [padS, getS] at e
    cases e
    refine ⟨_, rfl, ?_⟩
    cases a with
    | box => exact r
    | d y f =>
      cases f with
      | wk => simp [passes] at hp
      | ct => simp [passes] at hp
      | pl => exact r
      | fr => exact r
  | n + 1, a :: args, _ :: _, i + 1, s, .cons r t, hp, e => by
    simp only [padS, getS] at e
    have hp' : passes args = true := by
      cases a with
      | box => simpa [passes] using hp
      | d y f => cases f <;> simp_all [passes]
    obtain ⟨v, h1, h2⟩ := pad_at t hp' e
    exact ⟨v, by simpa using h1, h2⟩
theorem pad_len : ∀ {n : Nat} {args : List Og.Arg}, (padS n args).length = n
  | 0, _ => rfl
  | n + 1, [] => by simp [padS, pad_len]
  | n + 1, a :: r => by simp [padS, pad_len]
theorem pad_own : ∀ {n : Nat} {args : List Og.Arg} {i : Nat} {y : D}, getS (padS n args) i ≠ some (.own y)
  | 0, _, _, _ => by simp [padS, getS]
  | n + 1, [], 0, _ => by simp [padS, getS]
  | n + 1, [], i + 1, _ => by simp only [padS, getS]; exact pad_own
  | n + 1, a :: r, 0, _ => by
    simp only [padS, getS]
    cases a <;> simp [svOf]
  | n + 1, a :: r, i + 1, _ => by simp only [padS, getS]; exact pad_own
theorem start_at {N : List Str} {vs : List V} {i : Nat} {v : V} (h : vs[i]? = some v) : (L2.start N vs)[i]? = some (some v) := by
  unfold L2.start
  have := (List.getElem?_eq_some_iff.mp h).1
  rw [List.getElem?_append_left (by simpa using this), List.getElem?_map, h]; rfl
theorem fn_all (ok : TxOk x K w mg) (hck : x.ck = true) (c : Cf) (hcK : c.K = K) (hcw : c.w = w) (k0 : Nat)
    (tk : ∃ fa fd ps, FnOk P w K mg base L2.CX0 k0 fa fd ps (spTake c o) ∧ mg "_law_take" = some (.ref fa) ∧ PySem.W.keepIn K (.ref fa) = true ∧ Binds K fd ps []) :
    ∀ (n f : Nat) (t : FnT), x.T[f]? = some t → t.here = true → ∃ fa fd, FunD K t.name t.name t.args t.bd t.sc [] [] fa fd ∧ FnOk P w K mg base L2.CX0 (n + k0) fa fd t.ps (spF c (callN o x.G x.F W n) f t.ps.length) ∧ mg t.name = some (.ref fa) ∧ PySem.W.keepIn K (.ref fa) = true ∧ Binds K fd t.ps [] ∧
      ∀ ks pm, (f, ks, pm) ∈ x.kw → KBinds K fd t.ps ks (permG pm) (permG pm) := by
  intro n
  induction n with
  | zero =>
    intro f t ht hh
    obtain ⟨fa, fd, F, hm, hb, hkb⟩ := ok.fns f t ht hh
    refine ⟨fa, fd, F, ⟨fun vs H Q E h => ?_, fun A outer s H args us vs Q E hr he hb hv hs => ?_⟩, hm, F.kp, hb, hkb⟩
    · obtain ⟨_, _, _, _, _, _, e, _⟩ := h
      simp [callN] at e
    · obtain ⟨_, _, _, _, _, _, e, _⟩ := hs
      simp [callN] at e
  | succ n ih =>
    intro f t ht hh
    obtain ⟨fa, fd, F, hm, hb, hkb⟩ := ok.fns f t ht hh
    have hct : x.ckF t = true := List.all_eq_true.mp hck t (List.mem_of_getElem? ht)
    unfold Tx.ckF at hct
    rw [hh] at hct
    simp only [Bool.and_eq_true] at hct
    obtain ⟨hc1, hc2⟩ := hct
    have hcs : ckS t.body (x.cc t) t.bd = some [] := by
      unfold isNil at hc1
      split at hc1
      · rename_i e; exact e
      · cases hc1
    have S := C8.fnScope_by hc2
    refine ⟨fa, fd, F, ?_, hm, F.kp, hb, hkb⟩
    have e1 : n + 1 + k0 = (n + k0) + 1 := by omega
    rw [e1]
    refine F.ok S (fun vs H Q E h => ?_) (fun cdv A1 outer s H vs Q E hr h => ?_)
    · obtain ⟨A, args, h0, y, fl, h', e, hl, hp, ar, _⟩ := h
      rw [ar.length]; exact hl
    · obtain ⟨A, args, h0, y, fl, h', e, hl, hp, ar, wd, q⟩ := h
      have hF : x.F[f]? = some t.def := by unfold Tx.F; rw [List.getElem?_map, ht]; rfl
      simp only [callN, hF] at e
      have hbq : Nat.beq args.length t.def.np = true := by rw [hl]; exact Nat.beq_refl _
      rw [hbq] at e
      simp only at e
      have env : StEnv c o x.G (callN o x.G x.F W n) (n + k0) (x.cc t) (cxOf L2.CX0 P w K mg base t.N t.name t.sc fa cdv A1 outer s H E) := {
        K := hcK.symm
        w := hcw.symm
        calm := rfl
        nd := S.nd
        N := rfl
        sc := rfl
        fn := rfl
        room := hr
        room2 := by have := hr.un; show (A1.deeper _).units + 65 < cLine; omega
        blt := ok.blt
        glo := fun i n d h1 h2 hne => by
          obtain ⟨u, v, a1, a2, a3⟩ := ok.glo i n d h1 h2 hne
          exact ⟨u, v, a1, a2, a3 c hcK hcw⟩
        fns := fun f2 n2 ps2 h2 hne => by
          have h3 : (x.T.map fun t => (t.name, t.ps))[f2]? = some (n2, ps2) := h2
          rw [List.getElem?_map] at h3
          cases ht2 : x.T[f2]? with
          | none => rw [ht2] at h3; cases h3
          | some t2 =>
            rw [ht2] at h3
            cases h3
            have hh2 : t2.here = true := by
              have hct : x.ckF t2 = true := List.all_eq_true.mp hck t2 (List.mem_of_getElem? ht2)
              unfold Tx.ckF at hct
              split at hct
              · assumption
              · rw [eqS_iff hct] at hne; cases hne
            obtain ⟨fa, fd, _, r⟩ := ih f2 t2 ht2 hh2
            exact ⟨fa, fd, r⟩
        take := by
          obtain ⟨fa, fd, ps, F, r⟩ := tk
          exact ⟨fa, fd, ps, F.mono (Nat.le_add_left _ _), r⟩
        kind := S.kind
        hp := passes_of rfl }
      refine ⟨_, st_ok (W := W) env t.body t.bd [] hcs _ pss_nil, H, A, A, padS t.N.length args, h0, ⟨⟨?_, fun i sv e => ?_, fun i j a b r h1 => absurd h1 pad_own⟩, wd, .refl, fun a z => .inl z, fun a z => z, wd.bin, fun i a r h1 => absurd h1 pad_own⟩, ?_⟩
      · have hlN : t.ps.length ≤ t.N.length := by have := congrArg List.length S.pre; rw [List.length_take] at this; omega
        rw [pad_len]
        unfold L2.start
        have := ar.length
        simp; omega
      · obtain ⟨v, h1, h2⟩ := pad_at ar hp e
        exact ⟨v, start_at h1, h2⟩
      · show Oc c H A A H _ _ (exec o x.G (callN o x.G x.F W n) W t.body (padS t.N.length args) h0)
        have e : (match exec o x.G (callN o x.G x.F W n) W t.body (padS t.N.length args) h0 with
          | .ret x f h => RE.ok x f h
          | .nx _ h => .ok .none .pl h
          | _ => .no) = .ok y fl h' := e
        cases er : exec o x.G (callN o x.G x.F W n) W t.body (padS t.N.length args) h0 with
        | ret y1 f1 h1 =>
          rw [er] at e
          cases e
          exact q
        | nx σ1 h1 =>
          rw [er] at e
          cases e
          exact fun A' σV' H' iv al => q .non H' iv.kp ⟨fun a ha => iv.wd.dom a (iv.sup a ha), iv.b0, iv.wd.box⟩ Rv.non
        | bk σ1 h1 => rw [er] at e; cases e
        | ct σ1 h1 => rw [er] at e; cases e
        | no => rw [er] at e; cases e
theorem funD_one {t : FnT} {fa : Addr} {fd fd' : FuncData} (F : FunD K t.name t.name t.args t.bd t.sc [] [] fa fd) (F' : FunD K t.name t.name t.args t.bd t.sc [] [] fa fd') : fd = fd' := by
  obtain ⟨oc, od, dV, kV, doc, pm, an, cdv, ct, osl, _, lk, _⟩ := F.ex
  obtain ⟨oc2, od2, dV2, kV2, doc2, pm2, an2, cdv2, ct2, osl2, _, lk2, _⟩ := F'.ex
  rw [lk] at lk2
  cases lk2
  rfl
/-- a def at its address -/
theorem fn_one (ok : TxOk x K w mg) (hck : x.ck = true) (c : Cf) (hcK : c.K = K) (hcw : c.w = w) (k0 : Nat)
    (tk : ∃ fa fd ps, FnOk P w K mg base L2.CX0 k0 fa fd ps (spTake c o) ∧ mg "_law_take" = some (.ref fa) ∧ PySem.W.keepIn K (.ref fa) = true ∧ Binds K fd ps [])
    (n f : Nat) (t : FnT) (ht : x.T[f]? = some t) (hh : t.here = true) {fa : Addr} {fd : FuncData} (F : FunD K t.name t.name t.args t.bd t.sc [] [] fa fd) (hm : mg t.name = some (.ref fa)) :
    FnOk P w K mg base L2.CX0 (n + k0) fa fd t.ps (spF c (callN o x.G x.F W n) f t.ps.length) := by
  obtain ⟨fa', fd', F', r, hm', _⟩ := fn_all (P := P) (base := base) (o := o) (W := W) ok hck c hcK hcw k0 tk n f t ht hh
  rw [hm] at hm'
  cases hm'
  rw [funD_one F F']
  exact r
end
end Og

end
section
set_option Elab.async false
set_option linter.all false
set_option maxRecDepth 100000
set_option maxHeartbeats 2000000
/-! The draws: _law_cell_at, _law_box, _law_take. -/
namespace Og
open PySem PySem.Spec PyProof.Rows L2
def rAbs : List V → Hp → VK → Prop := fun xs H Q => ∃ i, xs = [.int i] ∧ Q (.int (if i < 0 then -i else i)) H
def rInt : List V → Hp → VK → Prop := fun xs H Q => (∃ i, xs = [.int i] ∧ Q (.int i) H) ∨ ∃ k, xs = [.bl k] ∧ Q (.int (if k then 1 else 0)) H
def rMin : List V → Hp → VK → Prop := fun xs H Q => ∃ i j, xs = [.int i, .int j] ∧ Q (.int (if j < i then j else i)) H
theorem ifT {p : Bool} {a b : Prop} (h : p = true) (x : a) : if p = true then a else b := by rw [if_pos h]; exact x
theorem ifF {p : Bool} {a b : Prop} (h : ¬ p = true) (x : b) : if p = true then a else b := by rw [if_neg h]; exact x
theorem boot_abs : bootBuiltins "abs" = some (.builtin "abs") := by decide +kernel
abbrev bdCell (p1 p2 p3 p4 p5 p6 p7 p8 p9 p10 p11 p12 : Pos) (k1 : Nat) : List Stmt :=
  [.If (.Compare (.Name "_law_k" p1) [.Lt] [(.Call (.Name "len" p2) [(.Name "_law_script" p3)] [] p4)] p5) [.Return (some (.Subscript (.Name "_law_script" p6) (.Name "_law_k" p7) p8)) p9] [] p10, .Return (some (.Constant (.int 0) k1 p11)) p12]
def tCell (K : PySem.W.Frag) : TS :=
  (tSeq (tIfS (tTest (tOp (rI0 fun i j => .bl (decide (i < j))) (tVar 1) (tCB (rLen K) (tCons (tVar 0) tNil)))) (tRet (tOp (rIxL K) (tVar 0) (tVar 1))) tNext) (tRet (tC (.int 0))))
abbrev bdBox (p1 p2 p3 p4 p5 p6 p7 p8 p9 p10 p11 p12 p13 p14 p15 p16 p17 p18 p19 p20 p21 p22 p23 p24 p25 p26 p27 p28 p29 p30 p31 : Pos) (k1 k2 k3 k4 k5 k6 : Nat) : List Stmt :=
  [.Assign [.Name "_law_core" p5] (.Call (.Name "_law_cell_at" p1) [(.Name "_law_script" p2), (.Name "_law_k" p3)] [] p4) p6, .Return (some (.List [(.BinOp (.Call (.Name "abs" p7) [(.Name "_law_core" p8)] [] p9) .Mult (.Call (.Name "int" p10) [(.Compare (.Call (.Name "abs" p11) [(.Name "_law_core" p12)] [] p13) [.GtE] [(.BinOp (.Constant (.int 10) k1 p14) .Pow (.Constant (.int 18) k2 p15) p16)] p17)] [] p18) p19), (.BinOp (.BinOp (.BinOp (.Name "_law_core" p20) .Mod (.Constant (.int 2305843009213693951) k3 p21) p22) .Add (.BinOp (.Constant (.int 39373) k4 p23) .Mult (.Name "_law_k" p24) p25) p26) .Add (.Constant (.int 29) k5 p27) p28), (.Constant (.int 0) k6 p29)] p30)) p31]
def tBox (K : PySem.W.Frag) (spC : Sp) : TS :=
  (tSeq (tAsg (tCall spC [] E0 (tCons (tVar 0) (tCons (tVar 1) tNil))) (gName 2)) (tRet (tLst (tCons (tOp (rI CMul fun i j => .int (i * j)) (tCB (rAbs) (tCons (tVar 2) tNil)) (tCB (rInt) (tCons (tOp (rI0 fun i j => .bl (decide (j ≤ i))) (tCB (rAbs) (tCons (tVar 2) tNil)) (tOp (rI CPow fun i j => .int (i ^ j.toNat)) (tC (.int 10)) (tC (.int 18)))) tNil))) (tCons (tOp (rI0 fun i j => .int (i + j)) (tOp (rI0 fun i j => .int (i + j)) (tOp (rI (fun _ j => 0 < j) fun i j => .int (i % j)) (tVar 2) (tC (.int 2305843009213693951))) (tOp (rI CMul fun i j => .int (i * j)) (tC (.int 39373)) (tVar 1))) (tC (.int 29))) (tCons (tC (.int 0)) tNil))))))
abbrev bdTake (p1 p2 p3 p4 p5 p6 p7 p8 p9 p10 p11 p12 p13 p14 p15 p16 p17 p18 p19 p20 p21 p22 p23 p24 p25 p26 p27 p28 p29 p30 p31 p32 p33 p34 p35 p36 p37 p38 p39 p40 p41 p42 p43 p44 p45 p46 p47 p48 p49 p50 p51 p52 p53 p54 p55 p56 p57 p58 p59 p60 p61 p62 p63 p64 p65 p66 p67 p68 p69 p70 p71 p72 p73 p74 p75 p76 p77 p78 p79 p80 p81 p82 p83 p84 p85 p86 p87 p88 p89 p90 p91 p92 p93 p94 p95 p96 p97 p98 p99 p100 p101 p102 p103 p104 p105 p106 p107 p108 p109 p110 p111 p112 p113 p114 p115 : Pos) (k1 k2 k3 k4 k5 k6 k7 k8 k9 k10 k11 k12 k13 k14 k15 k16 k17 k18 k19 k20 k21 k22 k23 k24 k25 k26 k27 k28 k29 k30 k31 k32 : Nat) : List Stmt :=
  [.If (.Compare (.Subscript (.Name "_law_box_here" p1) (.Constant (.int 0) k1 p2) p3) [.Gt] [(.Constant (.int 0) k2 p4)] p5) [.Assign [.Name "_law_found" p11] (.BinOp (.Subscript (.Name "_law_box_here" p6) (.Constant (.int 0) k3 p7) p8) .Mod (.Name "_law_below" p9) p10) p12, .Assign [.Subscript (.Name "_law_box_here" p18) (.Constant (.int 0) k5 p19) p20] (.BinOp (.Subscript (.Name "_law_box_here" p13) (.Constant (.int 0) k4 p14) p15) .FloorDiv (.Name "_law_below" p16) p17) p21, .Return (some (.Name "_law_found" p22)) p23] [] p24, .If (.Compare (.Name "_law_below" p25) [.Gt] [(.BinOp (.Constant (.int 10) k6 p26) .Pow (.Constant (.int 7) k7 p27) p28)] p29) [.Return (some (.BinOp (.BinOp (.Call (.Name "_law_take" p30) [(.Name "_law_box_here" p31), (.BinOp (.Constant (.int 10) k8 p32) .Pow (.Constant (.int 7) k9 p33) p34)] [] p35) .Add (.BinOp (.BinOp (.Constant (.int 10) k10 p36) .Pow (.Constant (.int 7) k11 p37) p38) .Mult (.Call (.Name "_law_take" p39) [(.Name "_law_box_here" p40), (.BinOp (.BinOp (.Name "_law_below" p41) .FloorDiv (.BinOp (.Constant (.int 10) k12 p42) .Pow (.Constant (.int 7) k13 p43) p44) p45) .Add (.Constant (.int 1) k14 p46) p47)] [] p48) p49) p50) .Mod (.Name "_law_below" p51) p52)) p53] [] p54, .Assign [.Subscript (.Name "_law_box_here" p60) (.Constant (.int 2) k17 p61) p62] (.BinOp (.Subscript (.Name "_law_box_here" p55) (.Constant (.int 2) k15 p56) p57) .Add (.Constant (.int 1) k16 p58) p59) p63, .Assign [.Name "_law_once" p81] (.BinOp (.BinOp (.BinOp (.Subscript (.Name "_law_box_here" p64) (.Constant (.int 1) k18 p65) p66) .Add (.BinOp (.Constant (.int 48271) k19 p67) .Mult (.Subscript (.Name "_law_box_here" p68) (.Constant (.int 2) k20 p69) p70) p71) p72) .Mult (.BinOp (.Constant (.int 39373) k21 p73) .Add (.Subscript (.Name "_law_box_here" p74) (.Constant (.int 2) k22 p75) p76) p77) p78) .Mod (.Constant (.int 2147483647) k23 p79) p80) p82, .Assign [.Name "_law_twice" p102] (.BinOp (.BinOp (.BinOp (.BinOp (.Name "_law_once" p83) .Add (.Subscript (.Name "_law_box_here" p84) (.Constant (.int 2) k24 p85) p86) p87) .Add (.BinOp (.Subscript (.Name "_law_box_here" p88) (.Constant (.int 1) k25 p89) p90) .FloorDiv (.Constant (.int 1000003) k26 p91) p92) p93) .Mult (.BinOp (.BinOp (.Name "_law_once" p94) .Mod (.Constant (.int 40009) k27 p95) p96) .Add (.Constant (.int 7) k28 p97) p98) p99) .Mod (.Constant (.int 2147483629) k29 p100) p101) p103, .Return (some (.BinOp (.BinOp (.BinOp (.BinOp (.BinOp (.Name "_law_twice" p104) .Mult (.Constant (.int 48271) k30 p105) p106) .Add (.Name "_law_once" p107) p108) .Mod (.Constant (.int 2147483587) k31 p109) p110) .FloorDiv (.Constant (.int 64) k32 p111) p112) .Mod (.Name "_law_below" p113) p114)) p115]
def tTake (K : PySem.W.Frag) (spT : Sp) : TS :=
  (tSeq (tIfS (tTest (tOp (rI0 fun i j => .bl (decide (j < i))) (tOp (rIxL K) (tVar 0) (tC (.int 0))) (tC (.int 0)))) (tSeq (tAsg (tOp (rI (fun _ j => 0 < j) fun i j => .int (i % j)) (tOp (rIxL K) (tVar 0) (tC (.int 0))) (tVar 1)) (gName 2)) (tSeq (tAsg (tOp (rI CDivW fun i j => .int (i / j)) (tOp (rIxL K) (tVar 0) (tC (.int 0))) (tVar 1)) (gSub (tVar 0) (tC (.int 0)) rSetL)) (tRet (tVar 2)))) tNext) (tSeq (tIfS (tTest (tOp (rI0 fun i j => .bl (decide (j < i))) (tVar 1) (tOp (rI CPow fun i j => .int (i ^ j.toNat)) (tC (.int 10)) (tC (.int 7))))) (tRet (tOp (rI (fun _ j => 0 < j) fun i j => .int (i % j)) (tOp (rI0 fun i j => .int (i + j)) (tCall spT [] E0 (tCons (tVar 0) (tCons (tOp (rI CPow fun i j => .int (i ^ j.toNat)) (tC (.int 10)) (tC (.int 7))) tNil))) (tOp (rI CMul fun i j => .int (i * j)) (tOp (rI CPow fun i j => .int (i ^ j.toNat)) (tC (.int 10)) (tC (.int 7))) (tCall spT [] E0 (tCons (tVar 0) (tCons (tOp (rI0 fun i j => .int (i + j)) (tOp (rI CDivW fun i j => .int (i / j)) (tVar 1) (tOp (rI CPow fun i j => .int (i ^ j.toNat)) (tC (.int 10)) (tC (.int 7)))) (tC (.int 1))) tNil))))) (tVar 1))) tNext) (tSeq (tAsg (tOp (rI0 fun i j => .int (i + j)) (tOp (rIxL K) (tVar 0) (tC (.int 2))) (tC (.int 1))) (gSub (tVar 0) (tC (.int 2)) rSetL)) (tSeq (tAsg (tOp (rI (fun _ j => 0 < j) fun i j => .int (i % j)) (tOp (rI CMul fun i j => .int (i * j)) (tOp (rI0 fun i j => .int (i + j)) (tOp (rIxL K) (tVar 0) (tC (.int 1))) (tOp (rI CMul fun i j => .int (i * j)) (tC (.int 48271)) (tOp (rIxL K) (tVar 0) (tC (.int 2))))) (tOp (rI0 fun i j => .int (i + j)) (tC (.int 39373)) (tOp (rIxL K) (tVar 0) (tC (.int 2))))) (tC (.int 2147483647))) (gName 3)) (tSeq (tAsg (tOp (rI (fun _ j => 0 < j) fun i j => .int (i % j)) (tOp (rI CMul fun i j => .int (i * j)) (tOp (rI0 fun i j => .int (i + j)) (tOp (rI0 fun i j => .int (i + j)) (tVar 3) (tOp (rIxL K) (tVar 0) (tC (.int 2)))) (tOp (rI CDivW fun i j => .int (i / j)) (tOp (rIxL K) (tVar 0) (tC (.int 1))) (tC (.int 1000003)))) (tOp (rI0 fun i j => .int (i + j)) (tOp (rI (fun _ j => 0 < j) fun i j => .int (i % j)) (tVar 3) (tC (.int 40009))) (tC (.int 7)))) (tC (.int 2147483629))) (gName 4)) (tRet (tOp (rI (fun _ j => 0 < j) fun i j => .int (i % j)) (tOp (rI CDivW fun i j => .int (i / j)) (tOp (rI (fun _ j => 0 < j) fun i j => .int (i % j)) (tOp (rI0 fun i j => .int (i + j)) (tOp (rI CMul fun i j => .int (i * j)) (tVar 4) (tC (.int 48271))) (tVar 3)) (tC (.int 2147483587))) (tC (.int 64))) (tVar 1))))))))

structure Bs where
  a : Int
  b : Int
  n : Int
def vB (s : Bs) : List V := [.int s.a, .int s.b, .int s.n]
def mag (i : Int) : Int := if i < 0 then -i else i
def box0 (core : Int) (k : Int) : Bs := ⟨mag core * (if decide ((10 : Int) ^ (18 : Int).toNat ≤ mag core) then 1 else 0), core % 2305843009213693951 + 39373 * k + 29, 0⟩
def once (s : Bs) : Int := (s.b + 48271 * s.n) * (39373 + s.n) % 2147483647
def twice (s : Bs) : Int := (once s + s.n + s.b / 1000003) * (once s % 40009 + 7) % 2147483629
def baseT (s : Bs) (m : Int) : Int × Bs := ((twice ⟨s.a, s.b, s.n + 1⟩ * 48271 + once ⟨s.a, s.b, s.n + 1⟩) % 2147483587 / 64 % m, ⟨s.a, s.b, s.n + 1⟩)
def tk : Nat → Bs → Int → Int × Bs
  | 0, s, m => if 0 < s.a then (s.a % m, ⟨s.a / m, s.b, s.n⟩) else baseT s m
  | d + 1, s, m => if 0 < s.a then (s.a % m, ⟨s.a / m, s.b, s.n⟩) else if 10000000 < m then
      (((tk d s 10000000).1 + 10000000 * (tk d (tk d s 10000000).2 (m / 10000000 + 1)).1) % m, (tk d (tk d s 10000000).2 (m / 10000000 + 1)).2) else baseT s m
theorem tk_range : ∀ (d : Nat) (s : Bs) (m : Int), 0 < m → 0 ≤ (tk d s m).1 ∧ (tk d s m).1 < m
  | 0, s, m, h => by
    unfold tk baseT
    split
    · exact ⟨Int.emod_nonneg _ (by omega), Int.emod_lt_of_pos _ h⟩
    · exact ⟨Int.emod_nonneg _ (by omega), Int.emod_lt_of_pos _ h⟩
  | d + 1, s, m, h => by
    unfold tk baseT
    split
    · exact ⟨Int.emod_nonneg _ (by omega), Int.emod_lt_of_pos _ h⟩
    · split
      · exact ⟨Int.emod_nonneg _ (by omega), Int.emod_lt_of_pos _ h⟩
      · exact ⟨Int.emod_nonneg _ (by omega), Int.emod_lt_of_pos _ h⟩
theorem tk_b : ∀ (d : Nat) (s : Bs) (m : Int), (tk d s m).2.b = s.b
  | 0, s, m => by unfold tk baseT; split <;> rfl
  | d + 1, s, m => by
    unfold tk baseT
    split
    · rfl
    · split
      · show (tk d (tk d s 10000000).2 (m / 10000000 + 1)).2.b = s.b
        rw [tk_b, tk_b]
      · rfl
theorem tk_n : ∀ (d : Nat) (s : Bs) (m : Int), s.n ≤ (tk d s m).2.n ∧ (tk d s m).2.n ≤ s.n + 2 ^ d
  | 0, s, m => by unfold tk baseT; split <;> simp <;> omega
  | d + 1, s, m => by
    have e : (2 : Int) ^ (d + 1) = 2 ^ d + 2 ^ d := by rw [Int.pow_succ]; omega
    have hp : (0 : Int) < 2 ^ d := Int.pow_pos (by decide)
    unfold tk baseT
    split
    · simp only; omega
    · split
      · have h1 := tk_n d s 10000000
        have h2 := tk_n d (tk d s 10000000).2 (m / 10000000 + 1)
        show s.n ≤ (tk d (tk d s 10000000).2 (m / 10000000 + 1)).2.n ∧ _
        simp only; omega
      · simp only; omega
/-- the box in good order: N draws may follow -/
def BsOk (s : Bs) : Prop := 0 ≤ s.b ∧ s.b < 2 ^ 62 ∧ 0 ≤ s.n ∧ s.n < 2 ^ 30
def bnd : Nat → Int
  | 0 => 10000000
  | 1 => 10000000000000
  | _ => 20000000000000000000
def spTk (d : Nat) : Sp := fun vs H Q _ => ∃ p s m, vs = [.ref p, .int m] ∧ H p = some (.lst (vB s)) ∧ 0 ≤ s.b ∧ s.b < 2 ^ 62 ∧ 0 ≤ s.n ∧ s.n + 2 ^ d < 2 ^ 30 ∧ 0 < m ∧ m ≤ bnd d ∧ Q (.int (tk d s m).1) (upd H p (.lst (vB (tk d s m).2)))
def spNo : Sp := fun _ _ _ _ => False
section
variable {P : Program} {w : World} {K : PySem.W.Frag} {mg : Str → Option Value} {base : Heap} {f fC : Addr} {fd fdC : FuncData} {pa : Arguments} {bd : List Stmt} {sc : Scope}
theorem ok_cellA {p1 p2 p3 p4 p5 p6 p7 p8 p9 p10 p11 p12 : Pos} {k1 : Nat} (F : FunD K "_law_cell_at" "_law_cell_at" pa bd sc [] [] f fd) (S : FnScope ["_law_script", "_law_k"] ["_law_script", "_law_k"] sc) (hl : sc.names.lookup ("len" : Str) = some .globalImplicit)
    (hb : bd = bdCell p1 p2 p3 p4 p5 p6 p7 p8 p9 p10 p11 p12 k1) (m_len : mg "len" = none) : FnOk P w K mg base L2.CX0 1 f fd ["_law_script", "_law_k"] (spCell K) := by
  refine F.ok (CX := L2.CX0) S (fun vs H Q E h => ?_) (fun cdv A outer s H vs Q E hr h => ⟨tCell K, ?_, ?_⟩)
  · obtain ⟨l, ns, j, rfl, _⟩ := h
    rfl
  · rw [hb]
    have v0 := vis_par S (x := "_law_script") List.mem_cons_self
    have v1 := vis_par S (x := "_law_k") (List.mem_cons_of_mem _ List.mem_cons_self)
    have g_len := hl
    exact (pss_cons (ps_if (pt_cmpR op_lt (pe_var (i := 1) rfl v1) (pe_callB call_len g_len m_len boot_len (pa_cons (pe_var (i := 0) rfl v0) pa_nil)) (nomark _)) (pss_one (ps_ret (pe_ix ix_list (pe_var (i := 0) rfl v0) (pe_var (i := 1) rfl v1) fun _ _ => rfl))) pss_nil) (pss_one (ps_ret pe_int)))
  · obtain ⟨l, ns, j, rfl, hs, q⟩ := h
    unfold tCell
    refine ⟨_, rfl, _, rfl, V.ref l, (ns.map V.int).length, rfl, .inl ⟨_, hs, rfl⟩, (j : Int), _, rfl, rfl, _, rfl, ?_⟩
    by_cases hj : j < ns.length
    · refine ifT (decide_eq_true (by rw [List.length_map]; omega)) ?_
      exact ⟨_, rfl, _, rfl, l, _, _, _, rfl, rfl, hs, atI_cell hj, q⟩
    · refine ifF (fun z => by have z2 := of_decide_eq_true z; rw [List.length_map] at z2; omega) ?_
      show Q (.int 0) H
      rw [cell_out hj] at q
      exact q
def spBox (K : PySem.W.Frag) : Sp := fun vs H Q _ => ∃ (l : Addr) (ns : List Int) (j : Nat), vs = [.ref l, .int (j : Nat)] ∧ SqL K H l (ns.map V.int) ∧ j ≤ 1000 ∧ ∀ p, H p = none → Q (.ref p) (upd H p (.lst (vB (box0 (cellOf ns j) j))))
theorem ok_box {p1 p2 p3 p4 p5 p6 p7 p8 p9 p10 p11 p12 p13 p14 p15 p16 p17 p18 p19 p20 p21 p22 p23 p24 p25 p26 p27 p28 p29 p30 p31 : Pos} {k1 k2 k3 k4 k5 k6 : Nat} (F : FunD K "_law_box" "_law_box" pa bd sc [] [] f fd) (S : FnScope ["_law_script", "_law_k", "_law_core"] ["_law_script", "_law_k"] sc) (lc : sc.names.lookup ("_law_core" : Str) = some .local)
    (g_abs : sc.names.lookup ("abs" : Str) = some .globalImplicit) (g_int : sc.names.lookup ("int" : Str) = some .globalImplicit) (gC : sc.names.lookup ("_law_cell_at" : Str) = some .globalImplicit)
    (hb : bd = bdBox p1 p2 p3 p4 p5 p6 p7 p8 p9 p10 p11 p12 p13 p14 p15 p16 p17 p18 p19 p20 p21 p22 p23 p24 p25 p26 p27 p28 p29 p30 p31 k1 k2 k3 k4 k5 k6) (m_abs : mg "abs" = none) (m_int : mg "int" = none)
    (FC : FnOk P w K mg base L2.CX0 1 fC fdC ["_law_script", "_law_k"] (spCell K)) (mC : mg "_law_cell_at" = some (.ref fC)) (kC : PySem.W.keepIn K (.ref fC) = true) (bC : Binds K fdC ["_law_script", "_law_k"] []) :
    FnOk P w K mg base L2.CX0 2 f fd ["_law_script", "_law_k"] (spBox K) := by
  refine F.ok (CX := L2.CX0) S (fun vs H Q E h => ?_) (fun cdv A outer s H vs Q E hr h => ⟨tBox K (spCell K), ?_, ?_⟩)
  · obtain ⟨l, ns, j, rfl, _⟩ := h
    rfl
  · rw [hb]
    have nd := S.nd
    have v0 := vis_par S (x := "_law_script") List.mem_cons_self
    have v1 := vis_par S (x := "_law_k") (List.mem_cons_of_mem _ List.mem_cons_self)
    have v2 : Vis sc "_law_core" := Or.inl lc
    have l2 : L2.Loc sc "_law_core" := Or.inl lc
    exact (pss_cons (ps_set (i := 2) nd rfl l2 (pe_call FC hr gC mC kC bC .nil pass0 (pa_cons (pe_var (i := 0) rfl v0) (pa_cons (pe_var (i := 1) rfl v1) pa_nil)))) (pss_one (ps_ret (pe_lst (pa_cons (pe_op op_mul (pe_callB call_abs g_abs m_abs boot_abs (pa_cons (pe_var (i := 2) rfl v2) pa_nil)) (pe_callTy call_int1 g_int m_int boot_int (pa_cons (pe_cmpR op_ge (pe_callB call_abs g_abs m_abs boot_abs (pa_cons (pe_var (i := 2) rfl v2) pa_nil)) (pe_op op_pow pe_int pe_int) (nomark _)) pa_nil))) (pa_cons (pe_op op_add (pe_op op_add (pe_op op_mod (pe_var (i := 2) rfl v2) pe_int) (pe_op op_mul pe_int (pe_var (i := 1) rfl v1))) pe_int) (pa_cons pe_int pa_nil)))))))
  · obtain ⟨l, ns, j, rfl, hs, hj, q⟩ := h
    unfold tBox
    refine ⟨_, rfl, _, rfl, l, ns, j, rfl, hs, ?_⟩
    refine ⟨_, rfl, cellOf ns j, rfl, _, rfl, cellOf ns j, rfl, 10, 18, rfl, rfl, ⟨by decide, by decide, by decide⟩, _, _, rfl, rfl, Or.inr ⟨_, rfl, _, _, rfl, rfl, .inr ?_, ?_⟩⟩
    · split <;> omega
    refine ⟨_, rfl, _, _, rfl, rfl, (by show (0 : Int) < 2305843009213693951; decide), _, rfl, _, _, rfl, rfl, .inl (by decide), _, _, rfl, rfl, _, _, rfl, rfl, ⟨by show 3 ≤ sizeLine; rw [sizeLine_eq]; decide, fun p hp => q p hp⟩⟩
theorem divW {m : Int} (h0 : 0 < m) (h1 : m ≤ 1000000000000000000000) (i : Int) : CDivW i m := by
  refine ⟨h0, ?_⟩
  have : m.natAbs < 2 ^ 100 := by
    have : m.natAbs ≤ 1000000000000000000000 := by omega
    exact Nat.lt_of_le_of_lt this (by decide)
  have := PySem.Flt.log2_lt_of (k := 100) (by decide) this
  omega
theorem take_run (d : Nat) (hd2 : d ≤ 2) (spT : Sp) (hT : ∀ p s m H Q, H p = some (.lst (vB s)) → 0 ≤ s.b → s.b < 2 ^ 62 → 0 ≤ s.n → 0 < d → s.n + 2 ^ (d - 1) < 2 ^ 30 → 0 < m → m ≤ bnd (d - 1) → Q (.int (tk (d - 1) s m).1) (upd H p (.lst (vB (tk (d - 1) s m).2))) → spT [.ref p, .int m] H Q L2.E0)
    {vs : List V} {H : Hp} {Q : VK} {E : XK} (h : spTk d vs H Q E) : tTake K spT { nx := fun _ H' => Q .non H', rt := Q } (L2.start ["_law_box_here", "_law_below", "_law_found", "_law_once", "_law_twice"] vs) H := by
  obtain ⟨p, s, m, rfl, hp, b0, b1, n0, n1, m0, m1, q⟩ := h
  have m2 : m ≤ 1000000000000000000000 := by
    have : bnd d ≤ 1000000000000000000000 := by
      have : d = 0 ∨ d = 1 ∨ d = 2 := by omega
      rcases this with rfl | rfl | rfl <;> decide
    omega
  have np : s.n + 1 < 2 ^ 30 := by
    have : (0 : Int) < 2 ^ d := Int.pow_pos (by decide)
    omega
  have p10 : (10 : Int) ^ (7 : Int).toNat = 10000000 := by decide
  have cp : CPow 10 7 := ⟨by decide, by decide, by decide⟩
  unfold tTake
  refine ⟨_, rfl, p, _, 0, _, rfl, rfl, SqL.of hp, rfl, _, _, rfl, rfl, _, rfl, ?_⟩
  by_cases ha : 0 < s.a
  · refine ifT (decide_eq_true ha) ?_
    have e : tk d s m = (s.a % m, ⟨s.a / m, s.b, s.n⟩) := by cases d <;> (unfold tk; rw [if_pos ha])
    rw [e] at q
    refine ⟨_, rfl, p, _, 0, _, rfl, rfl, SqL.of hp, rfl, _, rfl, _, _, rfl, rfl, m0, ?_⟩
    refine ⟨_, rfl, p, _, 0, _, rfl, rfl, SqL.of hp, rfl, _, rfl, _, _, rfl, rfl, divW m0 m2 _, ?_⟩
    refine ⟨_, rfl, p, _, 0, 0, rfl, rfl, hp, rfl, ?_⟩
    exact ⟨_, rfl, q⟩
  · refine ifF (fun z => ha (of_decide_eq_true z)) ?_
    refine ⟨_, rfl, 10, 7, rfl, rfl, cp, _, _, rfl, rfl, _, rfl, ?_⟩
    rw [p10]
    by_cases hm : 10000000 < m
    · refine ifT (decide_eq_true hm) ?_
      cases d with
      | zero => simp [bnd] at m1; omega
      | succ e =>
        have e1 : e + 1 - 1 = e := rfl
        have hpe : (0 : Int) < 2 ^ e := Int.pow_pos (by decide)
        have he2 : (2 : Int) ^ (e + 1) = 2 ^ e + 2 ^ e := by rw [Int.pow_succ]; omega
        have et : tk (e + 1) s m = (((tk e s 10000000).1 + 10000000 * (tk e (tk e s 10000000).2 (m / 10000000 + 1)).1) % m, (tk e (tk e s 10000000).2 (m / 10000000 + 1)).2) := by
          show (if 0 < s.a then _ else _) = _
          rw [if_neg ha, if_pos hm]
        rw [et] at q
        have hle : (10000000 : Int) ≤ bnd e := by
          have : e = 0 ∨ e = 1 := by omega
          rcases this with rfl | rfl <;> decide
        have hq2 : m / 10000000 + 1 ≤ bnd e := by
          have : e = 0 ∨ e = 1 := by omega
          rcases this with rfl | rfl
          · have : m ≤ 10000000000000 := m1
            show m / 10000000 + 1 ≤ 10000000
            omega
          · have : m ≤ 20000000000000000000 := m1
            show m / 10000000 + 1 ≤ 10000000000000
            omega
        have hk := tk_n e s 10000000
        refine ⟨_, rfl, 10, 7, rfl, rfl, cp, ?_⟩
        show spT [.ref p, .int ((10 : Int) ^ (7 : Int).toNat)] _ _ _
        rw [p10]
        refine hT p s 10000000 H _ hp b0 b1 n0 (by omega) (by rw [e1]; omega) (by decide) hle ?_
        rw [e1]
        have hq : (upd H p (.lst (vB (tk e s 10000000).2))) p = some (.lst (vB (tk e s 10000000).2)) := upd_same
        refine ⟨10, 7, rfl, rfl, cp, _, rfl, _, rfl, 10, 7, rfl, rfl, cp, m, _, rfl, rfl, ?_, _, _, rfl, rfl, ?_⟩
        · rw [p10]; exact divW (by decide) (by decide) _
        show spT [.ref p, .int (m / ((10 : Int) ^ (7 : Int).toNat) + 1)] _ _ _
        rw [p10]
        refine hT p _ _ _ _ hq (by rw [tk_b]; exact b0) (by rw [tk_b]; exact b1) (by omega) (by omega) (by rw [e1]; omega) (by omega) hq2 ?_
        rw [e1]
        refine ⟨_, _, rfl, rfl, .inl ?_, _, _, rfl, rfl, _, rfl, _, _, rfl, rfl, m0, ?_⟩
        · decide
        show Q (.int (((tk e s 10000000).1 + ((10 : Int) ^ (7 : Int).toNat) * (tk e (tk e s 10000000).2 (m / 10000000 + 1)).1) % m)) _
        rw [p10, upd_upd]
        exact q
    · refine ifF (fun z => hm (of_decide_eq_true z)) ?_
      have e : tk d s m = baseT s m := by
        cases d with
        | zero => unfold tk; rw [if_neg ha]
        | succ e => unfold tk; rw [if_neg ha, if_neg hm]
      rw [e] at q
      refine ⟨_, rfl, p, _, 2, _, rfl, rfl, SqL.of hp, rfl, _, _, rfl, rfl, ?_⟩
      refine ⟨_, rfl, p, _, 2, 2, rfl, rfl, hp, rfl, ?_⟩
      have hq : (upd H p (.lst ((vB s).set 2 (.int (s.n + 1))))) p = some (.lst (vB ⟨s.a, s.b, s.n + 1⟩)) := upd_same
      refine ⟨_, rfl, p, _, 1, _, rfl, rfl, SqL.of hq, rfl, _, rfl, p, _, 2, _, rfl, rfl, SqL.of hq, rfl, _, _, rfl, rfl, .inl (by decide), _, _, rfl, rfl, _, rfl, p, _, 2, _, rfl, rfl, SqL.of hq, rfl, _, _, rfl, rfl, _, _, rfl, rfl, .inr ?_, _, _, rfl, rfl, (by show (0 : Int) < 2147483647; decide), ?_⟩
      · show -(2 ^ 64) < 39373 + (s.n + 1) ∧ 39373 + (s.n + 1) < 2 ^ 64
        constructor <;> omega
      refine ⟨_, rfl, _, rfl, p, _, 2, _, rfl, rfl, SqL.of hq, rfl, _, _, rfl, rfl, _, rfl, p, _, 1, _, rfl, rfl, SqL.of hq, rfl, _, _, rfl, rfl, divW (by decide) (by decide) _, _, _, rfl, rfl, _, rfl, _, _, rfl, rfl, (by show (0 : Int) < 40009; decide), _, _, rfl, rfl, _, _, rfl, rfl, .inr ?_, _, _, rfl, rfl, (by show (0 : Int) < 2147483629; decide), ?_⟩
      · have h1 := Int.emod_nonneg (((s.b + 48271 * (s.n + 1)) * (39373 + (s.n + 1))) % 2147483647) (show (40009 : Int) ≠ 0 by decide)
        have h2 := Int.emod_lt_of_pos (((s.b + 48271 * (s.n + 1)) * (39373 + (s.n + 1))) % 2147483647) (show (0 : Int) < 40009 by decide)
        constructor <;> omega
      refine ⟨_, rfl, _, _, rfl, rfl, .inr (by decide), _, rfl, _, _, rfl, rfl, _, _, rfl, rfl, (by show (0 : Int) < 2147483587; decide), _, _, rfl, rfl, divW (by decide) (by decide) _, _, rfl, _, _, rfl, rfl, m0, ?_⟩
      exact q

theorem ok_take0 {p1 p2 p3 p4 p5 p6 p7 p8 p9 p10 p11 p12 p13 p14 p15 p16 p17 p18 p19 p20 p21 p22 p23 p24 p25 p26 p27 p28 p29 p30 p31 p32 p33 p34 p35 p36 p37 p38 p39 p40 p41 p42 p43 p44 p45 p46 p47 p48 p49 p50 p51 p52 p53 p54 p55 p56 p57 p58 p59 p60 p61 p62 p63 p64 p65 p66 p67 p68 p69 p70 p71 p72 p73 p74 p75 p76 p77 p78 p79 p80 p81 p82 p83 p84 p85 p86 p87 p88 p89 p90 p91 p92 p93 p94 p95 p96 p97 p98 p99 p100 p101 p102 p103 p104 p105 p106 p107 p108 p109 p110 p111 p112 p113 p114 p115 : Pos} {k1 k2 k3 k4 k5 k6 k7 k8 k9 k10 k11 k12 k13 k14 k15 k16 k17 k18 k19 k20 k21 k22 k23 k24 k25 k26 k27 k28 k29 k30 k31 k32 : Nat} (F : FunD K "_law_take" "_law_take" pa bd sc [] [] f fd) (S : FnScope ["_law_box_here", "_law_below", "_law_found", "_law_once", "_law_twice"] ["_law_box_here", "_law_below"] sc)
    (l2' : sc.names.lookup ("_law_found" : Str) = some .local) (l3' : sc.names.lookup ("_law_once" : Str) = some .local) (l4' : sc.names.lookup ("_law_twice" : Str) = some .local) (gT : sc.names.lookup ("_law_take" : Str) = some .globalImplicit)
    (hb : bd = bdTake p1 p2 p3 p4 p5 p6 p7 p8 p9 p10 p11 p12 p13 p14 p15 p16 p17 p18 p19 p20 p21 p22 p23 p24 p25 p26 p27 p28 p29 p30 p31 p32 p33 p34 p35 p36 p37 p38 p39 p40 p41 p42 p43 p44 p45 p46 p47 p48 p49 p50 p51 p52 p53 p54 p55 p56 p57 p58 p59 p60 p61 p62 p63 p64 p65 p66 p67 p68 p69 p70 p71 p72 p73 p74 p75 p76 p77 p78 p79 p80 p81 p82 p83 p84 p85 p86 p87 p88 p89 p90 p91 p92 p93 p94 p95 p96 p97 p98 p99 p100 p101 p102 p103 p104 p105 p106 p107 p108 p109 p110 p111 p112 p113 p114 p115 k1 k2 k3 k4 k5 k6 k7 k8 k9 k10 k11 k12 k13 k14 k15 k16 k17 k18 k19 k20 k21 k22 k23 k24 k25 k26 k27 k28 k29 k30 k31 k32) (mT : mg "_law_take" = some (.ref f)) (bT : Binds K fd ["_law_box_here", "_law_below"] []) :
    ∀ d, d ≤ 2 → FnOk P w K mg base L2.CX0 (d + 1) f fd ["_law_box_here", "_law_below"] (spTk d) := by
  have kT := F.kp
  have step : ∀ (d : Nat) (spT : Sp), d ≤ 2 → FnOk P w K mg base L2.CX0 d f fd ["_law_box_here", "_law_below"] spT → (∀ p s m H Q, H p = some (.lst (vB s)) → 0 ≤ s.b → s.b < 2 ^ 62 → 0 ≤ s.n → 0 < d → s.n + 2 ^ (d - 1) < 2 ^ 30 → 0 < m → m ≤ bnd (d - 1) → Q (.int (tk (d - 1) s m).1) (upd H p (.lst (vB (tk (d - 1) s m).2))) → spT [.ref p, .int m] H Q L2.E0) →
      FnOk P w K mg base L2.CX0 (d + 1) f fd ["_law_box_here", "_law_below"] (spTk d) := fun d spT hd FT hT => by
    refine F.ok (CX := L2.CX0) S (fun vs H Q E h => ?_) (fun cdv A outer s H vs Q E hr h => ⟨tTake K spT, ?_, take_run d hd spT hT h⟩)
    · obtain ⟨p, s, m, rfl, _⟩ := h
      rfl
    · rw [hb]
      have nd := S.nd
      have v0 := vis_par S (x := "_law_box_here") List.mem_cons_self
      have v1 := vis_par S (x := "_law_below") (List.mem_cons_of_mem _ List.mem_cons_self)
      have v2 : Vis sc "_law_found" := Or.inl l2'
      have v3 : Vis sc "_law_once" := Or.inl l3'
      have v4 : Vis sc "_law_twice" := Or.inl l4'
      have l2 : L2.Loc sc "_law_found" := Or.inl l2'
      have l3 : L2.Loc sc "_law_once" := Or.inl l3'
      have l4 : L2.Loc sc "_law_twice" := Or.inl l4'
      exact (pss_cons (ps_if (pt_cmpR op_gt (pe_ix ix_list (pe_var (i := 0) rfl v0) pe_int fun _ _ => rfl) pe_int (nomark _)) (pss_cons (ps_set (i := 2) nd rfl l2 (pe_op op_mod (pe_ix ix_list (pe_var (i := 0) rfl v0) pe_int fun _ _ => rfl) (pe_var (i := 1) rfl v1))) (pss_cons (ps_asg (pe_op op_fdivW (pe_ix ix_list (pe_var (i := 0) rfl v0) pe_int fun _ _ => rfl) (pe_var (i := 1) rfl v1)) (pg_sub (pe_var (i := 0) rfl v0) pe_int set_list)) (pss_one (ps_ret (pe_var (i := 2) rfl v2))))) pss_nil) (pss_cons (ps_if (pt_cmpR op_gt (pe_var (i := 1) rfl v1) (pe_op op_pow pe_int pe_int) (nomark _)) (pss_one (ps_ret (pe_op op_mod (pe_op op_add (pe_call FT hr gT mT kT bT .nil pass0 (pa_cons (pe_var (i := 0) rfl v0) (pa_cons (pe_op op_pow pe_int pe_int) pa_nil))) (pe_op op_mul (pe_op op_pow pe_int pe_int) (pe_call FT hr gT mT kT bT .nil pass0 (pa_cons (pe_var (i := 0) rfl v0) (pa_cons (pe_op op_add (pe_op op_fdivW (pe_var (i := 1) rfl v1) (pe_op op_pow pe_int pe_int)) pe_int) pa_nil))))) (pe_var (i := 1) rfl v1)))) pss_nil) (pss_cons (ps_asg (pe_op op_add (pe_ix ix_list (pe_var (i := 0) rfl v0) pe_int fun _ _ => rfl) pe_int) (pg_sub (pe_var (i := 0) rfl v0) pe_int set_list)) (pss_cons (ps_set (i := 3) nd rfl l3 (pe_op op_mod (pe_op op_mul (pe_op op_add (pe_ix ix_list (pe_var (i := 0) rfl v0) pe_int fun _ _ => rfl) (pe_op op_mul pe_int (pe_ix ix_list (pe_var (i := 0) rfl v0) pe_int fun _ _ => rfl))) (pe_op op_add pe_int (pe_ix ix_list (pe_var (i := 0) rfl v0) pe_int fun _ _ => rfl))) pe_int)) (pss_cons (ps_set (i := 4) nd rfl l4 (pe_op op_mod (pe_op op_mul (pe_op op_add (pe_op op_add (pe_var (i := 3) rfl v3) (pe_ix ix_list (pe_var (i := 0) rfl v0) pe_int fun _ _ => rfl)) (pe_op op_fdivW (pe_ix ix_list (pe_var (i := 0) rfl v0) pe_int fun _ _ => rfl) pe_int)) (pe_op op_add (pe_op op_mod (pe_var (i := 3) rfl v3) pe_int) pe_int)) pe_int)) (pss_one (ps_ret (pe_op op_mod (pe_op op_fdivW (pe_op op_mod (pe_op op_add (pe_op op_mul (pe_var (i := 4) rfl v4) pe_int) (pe_var (i := 3) rfl v3)) pe_int) pe_int) (pe_var (i := 1) rfl v1)))))))))
  have none0 : FnOk P w K mg base L2.CX0 0 f fd ["_law_box_here", "_law_below"] spNo := ⟨fun _ _ _ _ z => z.elim, fun _ _ _ _ _ _ _ _ _ _ _ _ _ z => z.elim⟩
  intro d
  induction d with
  | zero => intro h; exact step 0 spNo h none0 fun p s m H Q _ _ _ _ z => absurd z (by omega)
  | succ d ih =>
    intro h
    exact step (d + 1) (spTk d) h (ih (by omega)) fun p s m H Q h1 h2 h3 h4 _ h6 h7 h8 h9 => ⟨p, s, m, rfl, h1, h2, h3, h4, h6, h7, h8, h9⟩
end
/-! ### the draws as an oracle -/
def stOf (s0 : Bs) : Hist → Bs
  | [] => s0
  | m :: h => (tk 2 (stOf s0 h) m).2
def orc (s0 : Bs) : Hist → Int → Int := fun h m => (tk 2 (stOf s0 h) m).1
theorem stOf_b (s0 : Bs) : ∀ h, (stOf s0 h).b = s0.b
  | [] => rfl
  | m :: h => by show (tk 2 (stOf s0 h) m).2.b = _; rw [tk_b, stOf_b s0 h]
theorem stOf_n (s0 : Bs) : ∀ h : Hist, s0.n ≤ (stOf s0 h).n ∧ (stOf s0 h).n ≤ s0.n + 4 * h.length
  | [] => by simp [stOf]
  | m :: h => by
    have h1 := tk_n 2 (stOf s0 h) m
    have h2 := stOf_n s0 h
    show s0.n ≤ (tk 2 (stOf s0 h) m).2.n ∧ (tk 2 (stOf s0 h) m).2.n ≤ _
    have : (2 : Int) ^ 2 = 4 := by decide
    simp only [List.length_cons]
    omega
/-- an oracle that answers below what is asked -/
def Good (o : Hist → Int → Int) : Prop := ∀ h m, 0 < m → 0 ≤ o h m ∧ o h m < m
theorem orc_good (s0 : Bs) : Good (orc s0) := fun h m hm => tk_range 2 _ m hm
/-- the box at p, begun as s0 -/
def cfB (K : PySem.W.Frag) (w : World) (p : Addr) (s0 : Bs) : Cf := ⟨K, w, some p, fun h => vB (stOf s0 h)⟩
theorem take_imp {K : PySem.W.Frag} {w : World} {p : Addr} {s0 : Bs} (b0 : 0 ≤ s0.b) (b1 : s0.b < 2 ^ 62) (n0 : s0.n = 0) {vs : List V} {H : Hp} {Q : VK} {E : XK} (h : spTake (cfB K w p s0) (orc s0) vs H Q E) : spTk 2 vs H Q E := by
  obtain ⟨A, a, m, hh, rfl, ea, m0, m64, hl, wd, q⟩ := h
  have ea : a = p := by cases ea; rfl
  subst ea
  have hb := wd.box a rfl
  have hn := stOf_n s0 hh
  have hbb := stOf_b s0 hh
  have e4 : (2 : Int) ^ 2 = 4 := by decide
  refine ⟨a, stOf s0 hh, m, rfl, hb, by rw [hbb]; exact b0, by rw [hbb]; exact b1, by omega, by omega, m0, ?_, ?_⟩
  · show m ≤ 20000000000000000000
    omega
  · refine q _ (fun b u n e => ?_) ⟨fun b hb' => ?_, wd.bin, fun b e => ?_⟩
    · rw [upd_ne (fun z => n (by rw [z]; rfl))]; exact e
    · by_cases z : b = a
      · subst z; exact ⟨_, upd_same⟩
      · obtain ⟨u, e⟩ := wd.dom b hb'
        exact ⟨u, by rw [upd_ne z]; exact e⟩
    · cases e; exact upd_same
end Og

end
section
set_option Elab.async false
set_option linter.all false
set_option maxRecDepth 100000
set_option maxHeartbeats 2000000
/-! The law itself: over _law_right. -/
namespace Og
open PySem PySem.Spec PyProof.Rows L2
def okS (s : Bs) : Prop := 0 ≤ s.b ∧ s.b < 2 ^ 62 ∧ s.n = 0
/-- one turn of _law_right from the box at p -/
def spR : Sp := fun vs H Q _ => ∃ p s0 h, vs = [.ref p] ∧ H p = some (.lst (vB (stOf s0 h))) ∧ okS s0 ∧ h.length ≤ 600000 ∧
  ∀ h' H', h'.length ≤ h.length + 100000 → (∀ a u, a ≠ p → H a = some u → H' a = some u) → H' p = some (.lst (vB (stOf s0 h'))) → Q (.bl true) H'
/-- WHAT A LAW HAS TO SHOW, in plain terms: whatever the draws, _law_right (the def fR) returns True -/
def RightOK (x : Tx) (W n fR : Nat) : Prop := ∀ o, Good o → ∀ h : Hist, h.length ≤ 600000 → ∃ h', callN o x.G x.F W n fR [.box] h = .ok (.bool true) .pl h' ∧ h'.length ≤ h.length + 100000
section
variable {x : Tx} {P : Program} {w : World} {K : PySem.W.Frag} {mg : Str → Option Value} {base : Heap} {W : Nat}
theorem right_ok (ok : TxOk x K w mg) (hck : x.ck = true) {fT : Addr} {fdT : FuncData} {psT : List Str} (FT : FnOk P w K mg base L2.CX0 3 fT fdT psT (spTk 2)) (mT : mg "_law_take" = some (.ref fT)) (kT : PySem.W.keepIn K (.ref fT) = true) (bT : Binds K fdT psT [])
    (n fR : Nat) (t : FnT) (ht : x.T[fR]? = some t) (hh : t.here = true) (h1 : t.ps.length = 1) {fa : Addr} {fd : FuncData} (F : FunD K t.name t.name t.args t.bd t.sc [] [] fa fd) (hm : mg t.name = some (.ref fa)) (R : RightOK x W n fR) :
    FnOk P w K mg base L2.CX0 (n + 3) fa fd t.ps spR := by
  have key : ∀ vs H Q E, spR vs H Q E → ∃ p s0, okS s0 ∧ spF (cfB K w p s0) (callN (orc s0) x.G x.F W n) fR t.ps.length vs H Q E := fun vs H Q E hs => by
    obtain ⟨p, s0, h, rfl, hp, ok0, hl, q⟩ := hs
    obtain ⟨h', e, hl'⟩ := R (orc s0) (orc_good s0) h hl
    refine ⟨p, s0, ok0, [p], [.box], h, _, _, h', e, by rw [h1]; rfl, rfl, .cons ⟨p, rfl, rfl⟩ .nil, ⟨fun a ha => ?_, fun a ha => ?_, fun a ha => ?_⟩, fun v H' k w r => ?_⟩
    · have : a = p := by simpa using ha
      subst this; exact ⟨_, hp⟩
    · cases ha; simp
    · cases ha; exact hp
    · cases r
      refine q h' H' hl' (fun a u n e => k a u (fun z => n (by cases z; rfl)) e) (w.box p rfl)
  have fns : ∀ p s0, okS s0 → FnOk P w K mg base L2.CX0 (n + 3) fa fd t.ps (spF (cfB K w p s0) (callN (orc s0) x.G x.F W n) fR t.ps.length) := fun p s0 ok0 =>
    fn_one ok hck (cfB K w p s0) rfl rfl 3 ⟨fT, fdT, psT, FT.imp (fun vs H Q E h => take_imp ok0.1 ok0.2.1 ok0.2.2 h), mT, kT, bT⟩ n fR t ht hh F hm
  refine ⟨fun vs H Q E hs => ?_, fun A outer s H args us vs Q E hr he hb hv hs => ?_⟩
  · obtain ⟨p, s0, ok0, h⟩ := key vs H Q E hs
    exact (fns p s0 ok0).len vs H Q E h
  · obtain ⟨p, s0, ok0, h⟩ := key vs H Q E hs
    exact (fns p s0 ok0).run A outer s H args us vs Q E hr he hb hv h
theorem box0_ok {core : Int} {j : Nat} (hj : j ≤ 1000) : okS (box0 core j) := by
  have h1 := Int.emod_nonneg core (show (2305843009213693951 : Int) ≠ 0 by decide)
  have h2 := Int.emod_lt_of_pos core (show (0 : Int) < 2305843009213693951 by decide)
  refine ⟨?_, ?_, rfl⟩
  · show 0 ≤ core % 2305843009213693951 + 39373 * (j : Int) + 29
    omega
  · show core % 2305843009213693951 + 39373 * (j : Int) + 29 < 2 ^ 62
    omega
/-! ### for k in ..: box; if not all([_law_right(box) for turn in range(T)]): return False -/
def N4 : List Str := ["_law_script", "_law_k", "_law_box_here", "_law_turn"]
abbrev bdA (p1 p2 p3 p4 p5 p6 p7 p8 p9 p10 p11 p12 p13 p14 p15 p16 p17 p18 p19 p20 p21 p22 p23 p24 : Pos) (k1 k2 k3 : Nat) (rx : Expr) (T : Int) (scope : Scope) : List Stmt :=
  [.For (.Name "_law_k" p1) rx [.Assign [.Name "_law_box_here" p2] (.Call (.Name "_law_box" p3) [.Name "_law_script" p4, .Name "_law_k" p5] [] p6) p7,
    .If (.UnaryOp .Not (.Call (.Name "all" p8) [.ListComp (.Call (.Name "_law_right" p9) [.Name "_law_box_here" p10] [] p11) [⟨.Name "_law_turn" p12, .Call (.Name "range" p13) [.Constant (.int T) k1 p14] [] p15, [], 0⟩] scope p16] [] p17) p18) [.Return (some (.Constant (.bool false) k2 p19)) p20] [] p21] [] p22,
   .Return (some (.Constant (.bool true) k3 p23)) p24]
/-- what is walked: n of them -/
def iR (K : PySem.W.Frag) (bn : List Int → Nat) : TI := fun σ H R => ∃ l ns, σ[0]? = some (some (.ref l)) ∧ SqL K H l (ns.map V.int) ∧ R (Itr 0 (bn ns)) H
def tA (K : PySem.W.Frag) (bn : List Int → Nat) (T : Int) : TS :=
  tSeq (tFor (iR K bn) (gName 1) (tSeq (tAsg (tCall (spBox K) [] L2.E0 (tCons (tVar 0) (tCons (tVar 1) tNil))) (gName 2)) (tIfS (tNot (tB (tCB (rAll K) (tCons (tLc (iRng1 (tCons (tC (.int T)) tNil)) (gName 3) tYes (tCall spR [] L2.E0 (tCons (tVar 2) tNil)) [3]) tNil)))) (tRet (tC (.bl false))) tNext))) (tRet (tC (.bl true)))
def spLaw (K : PySem.W.Frag) : Sp := fun vs H Q _ => ∃ (a : Addr) (ns : List Int), vs = [.ref a] ∧ SqL K H a (ns.map V.int) ∧ ∀ H', Q (.bl true) H'
theorem SqL.keepN {H H' : Hp} {l p : Addr} {xs : List V} (hp : H p = none) (k : ∀ a u, a ≠ p → H a = some u → H' a = some u) (s : SqL K H l xs) : SqL K H' l xs := by
  rcases s with (e | ⟨o, e⟩) | s
  · exact .inl (.inl (k _ _ (ne_of_none e hp) e))
  · exact .inl (.inr ⟨o, k _ _ (ne_of_none e hp) e⟩)
  · exact .inr s
theorem SqL.upd' {H : Hp} {l p : Addr} {o : HO} {xs : List V} (hp : H p = none) (s : SqL K H l xs) : SqL K (upd H p o) l xs := SqL.keepN hp (fun a u n e => by rw [upd_ne n]; exact e) s
theorem runA (bn : List Int → Nat) (hbn : ∀ ns, bn ns ≤ 1000) (T : Nat) (hT : T ≤ 5) {vs : List V} {H : Hp} {Q : VK} {E : XK} (h : spLaw K vs H Q E) : tA K bn (T : Int) { nx := fun _ H' => Q .non H', rt := Q } (L2.start N4 vs) H := by
  obtain ⟨l, ns, rfl, hs, q⟩ := h
  unfold tA
  refine ⟨l, ns, rfl, hs, for_range (fun i σ H => (∃ a b c, σ = [some (.ref l), a, b, c]) ∧ SqL K H l (ns.map V.int)) ⟨⟨_, _, _, rfl⟩, hs⟩ ?_ ?_⟩
  · rintro i σ H hi ⟨⟨a, b, d, rfl⟩, hs⟩
    have hi2 : i ≤ 1000 := by have := hbn ns; omega
    refine ⟨_, rfl, _, rfl, l, ns, i, ?_, hs, hi2, fun p hp => ?_⟩
    · show [V.ref l, V.int (0 + (i : Int))] = _
      rw [Int.zero_add]
    have ok0 := box0_ok (core := cellOf ns i) hi2
    generalize box0 (cellOf ns i) (i : Int) = s0 at ok0
    have hs1 : SqL K (upd H p (.lst (vB s0))) l (ns.map V.int) := SqL.upd' hp hs
    have lp : ∀ {H' : Hp}, SqL K H l (ns.map V.int) → (∀ a u, a ≠ p → H a = some u → H' a = some u) → SqL K H' l (ns.map V.int) := fun {H'} s k => SqL.keepN hp k s
    refine ⟨(T : Int), rfl, by omega, by omega, fun Da hDa => ?_⟩
    have nDp : Da ≠ p := fun z => by rw [z, upd_same] at hDa; cases hDa
    have hDn : H Da = none := by rw [upd_ne nDp] at hDa; exact hDa
    have eT : ((T : Int)).toNat = T := by omega
    rw [eT]
    refine lc_range (fun j H' => ∃ hh : Hist, hh.length ≤ j * 100000 ∧ H' p = some (.lst (vB (stOf s0 hh))) ∧ H' Da = some (.lst ((List.replicate j true).map V.bl)) ∧ ∀ a u, a ≠ p → H a = some u → H' a = some u) ?_ ?_ ?_
    · refine ⟨[], by simp, ?_, upd_same, fun a u n e => ?_⟩
      · rw [upd_ne (Ne.symm nDp), upd_same]; rfl
      · rw [upd_ne (ne_of_none e hDn), upd_ne n]; exact e
    · rintro j H' hj ⟨hh, hl, hp', hD', hk⟩
      refine ⟨rfl, ?_⟩
      unfold tYes
      refine ifT rfl ?_
      refine ⟨_, rfl, p, s0, hh, rfl, hp', ok0, by omega, fun h2 H2 hl2 k2 hp2 => ?_⟩
      refine ⟨_, k2 _ _ nDp hD', by rw [List.length_map, List.length_replicate, sizeLine_eq]; omega, h2, by omega, ?_, ?_, fun a u n e => ?_⟩
      · rw [upd_ne (Ne.symm nDp)]; exact hp2
      · rw [upd_same, List.replicate_succ', List.map_append]; rfl
      · rw [upd_ne (ne_of_none e hDn)]; exact k2 _ _ n (hk _ _ n e)
    · rintro H' ⟨hh, hl, hp', hD', hk⟩
      refine ⟨Da, List.replicate T true, rfl, SqL.of hD', true, ?_, ?_⟩
      · have : (List.replicate T true).all id = true := by simp
        rw [this]
      refine ifF (by decide) ?_
      exact ⟨⟨_, _, _, rfl⟩, lp hs hk⟩
  · rintro σ H ⟨_, _⟩
    exact q H

/-! ### the text of such a law -/
theorem pss_A {X : Cx} {p1 p2 p3 p4 p5 p6 p7 p8 p9 p10 p11 p12 p13 p14 p15 p16 p17 p18 p19 p20 p21 p22 p23 p24 : Pos} {k1 k2 k3 : Nat} {rx : Expr} {T : Int} {scope : Scope} {bn : List Int → Nat} {fB fR : Addr} {fdB fdR : FuncData} {psR : List Str} {k : Nat}
    (hN : X.N = N4) (hc : X.calm = true) (hp : PassesOwn (model X.prog X.w) X.A X.env X.xe) (hfn : X.fn = fun _ => true) (hr : Room k X.A) (hk2 : 2 ≤ k)
    (v0 : Vis X.env.scope "_law_script") (l1 : L2.Loc X.env.scope "_law_k") (l2 : L2.Loc X.env.scope "_law_box_here") (gB : Gl X "_law_box") (gAll : Gl X "all") (gRg : Gl X "range")
    (mAll : X.mg "all" = none) (mRg : X.mg "range" = none) (FB : FnOk X.prog X.w X.K X.mg X.base L2.CX0 2 fB fdB ["_law_script", "_law_k"] (spBox X.K)) (mB : X.mg "_law_box" = some (.ref fB)) (kB' : PySem.W.keepIn X.K (.ref fB) = true) (bB : Binds X.K fdB ["_law_script", "_law_k"] [])
    (FR : FnOk X.prog X.w X.K X.mg X.base L2.CX0 k fR fdR psR spR) (mR : X.mg "_law_right" = some (.ref fR)) (kR : PySem.W.keepIn X.K (.ref fR) = true) (bR : Binds X.K fdR psR [])
    (hi : PI X (.Name "_law_k" p1) rx (iR X.K bn)) (hs : ∀ x, foldedSetIterable rx X.env x = pure x) (blk : BlkOk N4 X.env.scope scope [("_law_turn", 3)])
    (gR : (relS scope X.env.scope).names.lookup ("_law_right" : Str) = some .globalImplicit) (v2 : Vis (relS scope X.env.scope) "_law_box_here") (l3 : L2.Loc (relS scope X.env.scope) "_law_turn") (f3 : (scope.names.lookup ("_law_turn" : Str) == some .cell) = true ∨ (relS scope X.env.scope).names.lookup ("_law_turn" : Str) = some .local) :
    PSs X (bdA p1 p2 p3 p4 p5 p6 p7 p8 p9 p10 p11 p12 p13 p14 p15 p16 p17 p18 p19 p20 p21 p22 p23 p24 k1 k2 k3 rx T scope) (tA X.K bn T) := by
  have nd : X.N.Nodup := by rw [hN]; decide +kernel
  have vis1 : Vis X.env.scope "_law_k" := by
    rcases l1 with z | z
    · exact .inl z
    · exact .inr (.inl z)
  have fn : ∀ y : Str, X.fn y = true ∨ X.env.scope.names.lookup y = some .local := fun y => .inl (by rw [hfn])
  refine pss_cons (ps_for hp hc hi (pg_name (i := 1) nd (by rw [hN]; rfl) l1 (fn _)) (pss_cons (ps_set (i := 2) nd (by rw [hN]; rfl) l2 (pe_call FB (hr.mono hk2) gB mB kB' bB .nil pass0 (pa_cons (pe_var (i := 0) (by rw [hN]; rfl) v0) (pa_cons (pe_var (i := 1) (by rw [hN]; rfl) vis1) pa_nil))) rfl (fn _))
    (pss_one (ps_if (pt_not (pt_val (pe_callB (cr_all hc) gAll mAll boot_all (pa_cons (pe_lc (own := [("_law_turn", 3)]) hc nd (pi_range1 gRg mRg (pa_cons pe_int pa_nil)) (by rw [hN]; exact blk) (fun s H C cl fp => ?_) (fun s H C cl fp => pts_nil) (fun s H C cl fp => ?_)) pa_nil)))) (pss_one (ps_ret pe_bl)) pss_nil))) hs) (pss_one (ps_ret pe_bl))
  · exact pg_name (X := X.blk s H scope (compEnvC scope cl C X.env) fp) (i := 3) nd (by show X.N[3]? = _; rw [hN]; rfl) l3 f3
  · exact pe_call (X := X.blk s H scope (compEnvC scope cl C X.env) fp) FR hr gR mR kR bR .nil pass0 (pa_cons (pe_var (X := X.blk s H scope (compEnvC scope cl C X.env) fp) (i := 2) (by show X.N[2]? = _; rw [hN]; rfl) v2) pa_nil)

abbrev rxC (a1 a2 a3 a4 a5 a6 a7 a8 a9 a10 : Pos) (q1 q2 : Nat) (C : Int) : Expr :=
  .Call (.Name "range" a1) [.BinOp (.Constant (.int 1) q1 a2) .Add (.Call (.Name "min" a3) [.Constant (.int C) q2 a4, .Call (.Name "len" a5) [.Name "_law_script" a6] [] a7] [] a8) a9] [] a10
def bnC (C : Nat) (ns : List Int) : Nat := 1 + min C ns.length
theorem pi_C {X : Cx} {tg : Expr} {a1 a2 a3 a4 a5 a6 a7 a8 a9 a10 : Pos} {q1 q2 : Nat} {C : Nat} (hC : C ≤ 900) (hN : X.N[0]? = some ("_law_script" : Str)) (hc : X.calm = true) (v0 : Vis X.env.scope "_law_script") (gRg : Gl X "range") (gMin : Gl X "min") (gLen : Gl X "len") (mRg : X.mg "range" = none) (mMin : X.mg "min" = none) (mLen : X.mg "len" = none) :
    PI X tg (rxC a1 a2 a3 a4 a5 a6 a7 a8 a9 a10 q1 q2 (C : Int)) (iR X.K (bnC C)) := by
  refine (pi_range1 gRg mRg (pa_cons (pe_op op_add pe_int (pe_callB (call_min2 hc) gMin mMin boot_min (pa_cons pe_int (pa_cons (pe_callB call_len gLen mLen boot_len (pa_cons (pe_var (i := 0) hN v0) pa_nil)) pa_nil)))) pa_nil)).mono fun σV H R ⟨l, ns, h0, hs, r⟩ => ?_
  refine ⟨_, h0, _, (ns.map V.int).length, rfl, .inl ⟨_, hs, rfl⟩, (C : Int), _, rfl, _, _, rfl, rfl, _, rfl, ?_, ?_, ?_⟩
  · split <;> omega
  · split <;> omega
  · have e : (1 + if (((ns.map V.int).length : Nat) : Int) < (C : Int) then (((ns.map V.int).length : Nat) : Int) else (C : Int)).toNat = bnC C ns := by
      unfold bnC
      rw [List.length_map]
      split <;> omega
    rw [e]
    exact r
abbrev rxN (a1 a2 a3 : Pos) (q1 : Nat) (C : Int) : Expr := .Call (.Name "range" a1) [.Constant (.int C) q1 a2] [] a3
theorem pi_N {X : Cx} {tg : Expr} {a1 a2 a3 : Pos} {q1 : Nat} {C : Nat} (hC : C ≤ 900) (gRg : Gl X "range") (mRg : X.mg "range" = none) : PI X tg (rxN a1 a2 a3 q1 (C : Int)) (iR X.K fun _ => C) := by
  refine (pi_range1 gRg mRg (pa_cons pe_int pa_nil)).mono fun σV H R ⟨l, ns, h0, hs, r⟩ => ⟨(C : Int), rfl, by omega, by omega, ?_⟩
  have e : ((C : Int)).toNat = C := by omega
  rw [e]
  exact r
/-- law keeps spLaw: the first shape -/
theorem ok_lawA {pa : Arguments} {bd : List Stmt} {sc : Scope} {f : Addr} {fd : FuncData} {p1 p2 p3 p4 p5 p6 p7 p8 p9 p10 p11 p12 p13 p14 p15 p16 p17 p18 p19 p20 p21 p22 p23 p24 : Pos} {k1 k2 k3 : Nat} {rx : Expr} {T : Nat} {scope : Scope} {bn : List Int → Nat} {fB fR : Addr} {fdB fdR : FuncData} {psR : List Str} {k : Nat}
    (F : FunD K "law" "law" pa bd sc [] [] f fd) (S : FnScope N4 ["_law_script"] sc) (hb : bd = bdA p1 p2 p3 p4 p5 p6 p7 p8 p9 p10 p11 p12 p13 p14 p15 p16 p17 p18 p19 p20 p21 p22 p23 p24 k1 k2 k3 rx (T : Int) scope) (hT : T ≤ 5) (hbn : ∀ ns, bn ns ≤ 1000) (hk2 : 2 ≤ k)
    (l1 : locB sc "_law_k" = true) (l2 : locB sc "_law_box_here" = true) (gB : glB sc "_law_box" = true) (gAll : glB sc "all" = true) (gRg : glB sc "range" = true) (mAll : mg "all" = none) (mRg : mg "range" = none)
    (FB : FnOk P w K mg base L2.CX0 2 fB fdB ["_law_script", "_law_k"] (spBox K)) (mB : mg "_law_box" = some (.ref fB)) (kB' : PySem.W.keepIn K (.ref fB) = true) (bB : Binds K fdB ["_law_script", "_law_k"] [])
    (FR : FnOk P w K mg base L2.CX0 k fR fdR psR spR) (mR : mg "_law_right" = some (.ref fR)) (kR : PySem.W.keepIn K (.ref fR) = true) (bR : Binds K fdR psR [])
    (hi : ∀ X : Cx, X.K = K → X.mg = mg → X.env.scope = sc → X.N = N4 → X.calm = true → PI X (.Name "_law_k" p1) rx (iR K bn)) (hs : noSet rx = true) (blk : blkB ⟨N4, sc, fun _ => true, [], [], []⟩ scope [3] = true)
    (gR : glB (relS scope sc) "_law_right" = true) (v2 : visB (relS scope sc) "_law_box_here" = true) (l3 : locB (relS scope sc) "_law_turn" = true) (f3 : ((scope.names.lookup ("_law_turn" : Str) == some .cell) || lclB (relS scope sc) "_law_turn") = true) :
    FnOk P w K mg base L2.CX0 (k + 1) f fd ["_law_script"] (spLaw K) := by
  refine F.ok (CX := L2.CX0) S (fun vs H Q E h => ?_) (fun cdv A outer s H vs Q E hr h => ⟨tA K bn (T : Int), ?_, runA bn hbn T hT h⟩)
  · obtain ⟨a, ns, rfl, _⟩ := h
    rfl
  · rw [hb]
    exact pss_A (X := cxOf L2.CX0 P w K mg base N4 "law" sc f cdv A outer s H E) rfl rfl (passes_of rfl) rfl hr hk2 (vis_par S List.mem_cons_self) (locB_ok l1) (locB_ok l2) (glB_ok gB) (glB_ok gAll) (glB_ok gRg) mAll mRg FB mB kB' bB FR mR kR bR (hi _ rfl rfl rfl rfl rfl) (set_ok hs)
      (blk_ok (Γ := ⟨N4, sc, fun _ => true, [], [], []⟩) blk) (glB_ok gR) (visB_ok v2) (locB_ok l3) (by
        rw [Bool.or_eq_true] at f3
        rcases f3 with z | z
        · exact .inl z
        · exact .inr (lclB_ok z))
/-! ### return all([_law_right(_law_box(script, k)) for k in ..]) -/
def N2 : List Str := ["_law_script", "_law_k"]
abbrev bdB (p1 p2 p3 p4 p5 p6 p7 p8 p9 p10 p11 : Pos) (rx : Expr) (scope : Scope) : List Stmt :=
  [.Return (some (.Call (.Name "all" p1) [.ListComp (.Call (.Name "_law_right" p2) [.Call (.Name "_law_box" p3) [.Name "_law_script" p4, .Name "_law_k" p5] [] p6] [] p7) [⟨.Name "_law_k" p8, rx, [], 0⟩] scope p9] [] p10)) p11]
def tBl (K : PySem.W.Frag) (bn : List Int → Nat) : TS :=
  tRet (tCB (L2.rAll K) (tCons (tLc (iR K bn) (gName 1) tYes (tCall spR [] L2.E0 (tCons (tCall (spBox K) [] L2.E0 (tCons (tVar 0) (tCons (tVar 1) tNil))) tNil)) [1]) tNil))
theorem runB (bn : List Int → Nat) (hbn : ∀ ns, bn ns ≤ 1000) {vs : List V} {H : Hp} {Q : VK} {E : XK} (h : spLaw K vs H Q E) : tBl K bn { nx := fun _ H' => Q .non H', rt := Q } (L2.start N2 vs) H := by
  obtain ⟨l, ns, rfl, hs, q⟩ := h
  unfold tBl
  refine ⟨l, ns, rfl, hs, fun Da hDa => ?_⟩
  have se : ∀ {H' : Hp}, (∀ a u, H a = some u → H' a = some u) → SqL K H' l (ns.map V.int) := fun {H'} k => by
    rcases hs with (e | ⟨o, e⟩) | e
    · exact .inl (.inl (k _ _ e))
    · exact .inl (.inr ⟨o, k _ _ e⟩)
    · exact .inr e
  refine lc_range (fun j H' => (∀ a u, H a = some u → H' a = some u) ∧ H' Da = some (.lst ((List.replicate j true).map V.bl))) ?_ ?_ ?_
  · exact ⟨fun a u e => by rw [upd_ne (ne_of_none e hDa)]; exact e, upd_same⟩
  · rintro j H' hj ⟨hk, hD'⟩
    have hj2 : j ≤ 1000 := by have := hbn ns; omega
    refine ⟨rfl, ?_⟩
    unfold tYes
    refine ifT rfl ?_
    refine ⟨_, rfl, _, rfl, l, ns, j, ?_, se hk, hj2, fun p hp => ?_⟩
    · show [V.ref l, V.int (0 + (j : Int))] = _
      rw [Int.zero_add]
    have ok0 := box0_ok (core := cellOf ns j) hj2
    refine ⟨p, box0 (cellOf ns j) j, [], rfl, upd_same, ok0, by simp, fun h2 H2 hl2 k2 hp2 => ?_⟩
    have nD : Da ≠ p := fun z => by rw [z, hp] at hD'; cases hD'
    have hD2 : H2 Da = some (.lst ((List.replicate j true).map V.bl)) := k2 _ _ nD (by rw [upd_ne nD]; exact hD')
    refine ⟨_, hD2, by rw [List.length_map, List.length_replicate, sizeLine_eq]; omega, fun a u e => ?_, ?_⟩
    · have n1 : a ≠ Da := ne_of_none e hDa
      have n2 : a ≠ p := ne_of_none (hk _ _ e) hp
      rw [upd_ne n1]
      exact k2 _ _ n2 (by rw [upd_ne n2]; exact hk _ _ e)
    · rw [upd_same, List.replicate_succ', List.map_append]; rfl
  · rintro H' ⟨hk, hD'⟩
    refine ⟨Da, List.replicate (bn ns) true, rfl, SqL.of hD', ?_⟩
    have : (List.replicate (bn ns) true).all id = true := by simp
    rw [this]
    exact q H'
theorem pss_B {X : Cx} {p1 p2 p3 p4 p5 p6 p7 p8 p9 p10 p11 : Pos} {rx : Expr} {scope : Scope} {bn : List Int → Nat} {fB fR : Addr} {fdB fdR : FuncData} {psR : List Str} {k : Nat}
    (hN : X.N = N2) (hc : X.calm = true) (hr : Room k X.A) (hk2 : 2 ≤ k) (gAll : Gl X "all") (mAll : X.mg "all" = none)
    (FB : FnOk X.prog X.w X.K X.mg X.base L2.CX0 2 fB fdB ["_law_script", "_law_k"] (spBox X.K)) (mB : X.mg "_law_box" = some (.ref fB)) (kB' : PySem.W.keepIn X.K (.ref fB) = true) (bB : Binds X.K fdB ["_law_script", "_law_k"] [])
    (FR : FnOk X.prog X.w X.K X.mg X.base L2.CX0 k fR fdR psR spR) (mR : X.mg "_law_right" = some (.ref fR)) (kR : PySem.W.keepIn X.K (.ref fR) = true) (bR : Binds X.K fdR psR [])
    (hi : PI X (.Name "_law_k" p8) rx (iR X.K bn)) (hs : ∀ x, foldedSetIterable rx X.env x = pure x) (blk : BlkOk N2 X.env.scope scope [("_law_k", 1)])
    (gR : (relS scope X.env.scope).names.lookup ("_law_right" : Str) = some .globalImplicit) (gB : (relS scope X.env.scope).names.lookup ("_law_box" : Str) = some .globalImplicit) (v0 : Vis (relS scope X.env.scope) "_law_script") (l1 : L2.Loc (relS scope X.env.scope) "_law_k") (f1 : (scope.names.lookup ("_law_k" : Str) == some .cell) = true ∨ (relS scope X.env.scope).names.lookup ("_law_k" : Str) = some .local) :
    PSs X (bdB p1 p2 p3 p4 p5 p6 p7 p8 p9 p10 p11 rx scope) (tBl X.K bn) := by
  have nd : X.N.Nodup := by rw [hN]; decide +kernel
  have v1 : Vis (relS scope X.env.scope) "_law_k" := by
    rcases l1 with z | z
    · exact .inl z
    · exact .inr (.inl z)
  refine pss_one (ps_ret (pe_callB (cr_all hc) gAll mAll boot_all (pa_cons (pe_lc (own := [("_law_k", 1)]) hc nd hi (by rw [hN]; exact blk) (fun s H C cl fp => ?_) (fun s H C cl fp => pts_nil) (fun s H C cl fp => ?_) hs) pa_nil)))
  · exact pg_name (X := X.blk s H scope (compEnvC scope cl C X.env) fp) (i := 1) nd (by show X.N[1]? = _; rw [hN]; rfl) l1 f1
  · exact pe_call (X := X.blk s H scope (compEnvC scope cl C X.env) fp) FR hr gR mR kR bR .nil pass0 (pa_cons (pe_call (X := X.blk s H scope (compEnvC scope cl C X.env) fp) FB (hr.mono hk2) gB mB kB' bB .nil pass0 (pa_cons (pe_var (X := X.blk s H scope (compEnvC scope cl C X.env) fp) (i := 0) (by show X.N[0]? = _; rw [hN]; rfl) v0) (pa_cons (pe_var (X := X.blk s H scope (compEnvC scope cl C X.env) fp) (i := 1) (by show X.N[1]? = _; rw [hN]; rfl) v1) pa_nil))) pa_nil)
/-- law keeps spLaw: the second shape -/
theorem ok_lawB {pa : Arguments} {bd : List Stmt} {sc : Scope} {f : Addr} {fd : FuncData} {p1 p2 p3 p4 p5 p6 p7 p8 p9 p10 p11 : Pos} {rx : Expr} {scope : Scope} {bn : List Int → Nat} {fB fR : Addr} {fdB fdR : FuncData} {psR : List Str} {k : Nat}
    (F : FunD K "law" "law" pa bd sc [] [] f fd) (S : FnScope N2 ["_law_script"] sc) (hb : bd = bdB p1 p2 p3 p4 p5 p6 p7 p8 p9 p10 p11 rx scope) (hbn : ∀ ns, bn ns ≤ 1000) (hk2 : 2 ≤ k) (gAll : glB sc "all" = true) (mAll : mg "all" = none)
    (FB : FnOk P w K mg base L2.CX0 2 fB fdB ["_law_script", "_law_k"] (spBox K)) (mB : mg "_law_box" = some (.ref fB)) (kB' : PySem.W.keepIn K (.ref fB) = true) (bB : Binds K fdB ["_law_script", "_law_k"] [])
    (FR : FnOk P w K mg base L2.CX0 k fR fdR psR spR) (mR : mg "_law_right" = some (.ref fR)) (kR : PySem.W.keepIn K (.ref fR) = true) (bR : Binds K fdR psR [])
    (hi : ∀ X : Cx, X.K = K → X.mg = mg → X.env.scope = sc → X.N = N2 → X.calm = true → PI X (.Name "_law_k" p8) rx (iR K bn)) (hs : noSet rx = true) (blk : blkB ⟨N2, sc, fun _ => true, [], [], []⟩ scope [1] = true)
    (gR : glB (relS scope sc) "_law_right" = true) (gB : glB (relS scope sc) "_law_box" = true) (v0 : visB (relS scope sc) "_law_script" = true) (l1 : locB (relS scope sc) "_law_k" = true) (f1 : ((scope.names.lookup ("_law_k" : Str) == some .cell) || lclB (relS scope sc) "_law_k") = true) :
    FnOk P w K mg base L2.CX0 (k + 1) f fd ["_law_script"] (spLaw K) := by
  refine F.ok (CX := L2.CX0) S (fun vs H Q E h => ?_) (fun cdv A outer s H vs Q E hr h => ⟨tBl K bn, ?_, runB bn hbn h⟩)
  · obtain ⟨a, ns, rfl, _⟩ := h
    rfl
  · rw [hb]
    exact pss_B (X := cxOf L2.CX0 P w K mg base N2 "law" sc f cdv A outer s H E) rfl rfl hr hk2 (glB_ok gAll) mAll FB mB kB' bB FR mR kR bR (hi _ rfl rfl rfl rfl rfl) (set_ok hs)
      (blk_ok (Γ := ⟨N2, sc, fun _ => true, [], [], []⟩) blk) (glB_ok gR) (glB_ok gB) (visB_ok v0) (locB_ok l1) (by
        rw [Bool.or_eq_true] at f1
        rcases f1 with z | z
        · exact .inl z
        · exact .inr (lclB_ok z))
end
end Og

end
section
set_option Elab.async false
set_option linter.all false
set_option maxRecDepth 100000
set_option maxHeartbeats 2000000
/-! The head's facts for the machine. -/
namespace Og
open PySem PySem.Spec PyProof.Rows L2
/-- numbers and texts, as the head writes them and as trees -/
def scB : List He.Dv → List D → Bool
  | [], [] => true
  | .int i :: r, .int j :: t => decide (i = j) && scB r t
  | .str i :: r, .str j :: t => decide (i = j) && scB r t
  | _, _ => false
theorem scB_ok {K : PySem.W.Frag} : ∀ {vs : List He.Dv} {ds : List D}, scB vs ds = true → Paired Sc (vs.map (He.Dv.v K)) ds
  | [], [], _ => .nil
  | v :: r, d :: t, h => by
    unfold scB at h
    split at h
    · rename_i e1 e2; cases e1
    · rename_i i r' j t' e1 e2
      cases e1; cases e2
      simp only [Bool.and_eq_true, decide_eq_true_eq] at h
      obtain ⟨rfl, h⟩ := h
      exact .cons (.int _) (scB_ok h)
    · rename_i i r' j t' e1 e2
      cases e1; cases e2
      simp only [Bool.and_eq_true, decide_eq_true_eq] at h
      obtain ⟨rfl, h⟩ := h
      exact .cons (.str _) (scB_ok h)
    · cases h
  | [], _ :: _, h => by simp [scB] at h
  | _ :: _, [], h => by simp [scB] at h
section
variable {K : PySem.W.Frag} {w : World}
theorem gl_tup {x : Str} {vs : List He.Dv} {ds : List D} (h : He.tupB K x vs = true) (hs : scB vs ds = true) : ∀ c : Cf, c.K = K → c.w = w → GlR c (.ref (He.ga K x)) (.tuple ds) := fun c hK _ => by
  refine ⟨_, rfl, ?_⟩
  have q := He.tupB_ok h (fun _ => none)
  rcases q with (e | ⟨o, e⟩) | ⟨o, its, n, h1, h2, h3, h4, h5⟩
  · cases e
  · cases e
  · exact .tup ⟨o, its, n, by rw [hK]; exact h1, h2, h3, h4, h5⟩ (scB_ok hs)
theorem dic_out {P : Params} {a : Addr} {ks : List Str} {z : Str} (h : He.dicW K a = some (He.keysIn P ks)) (hz : z ∉ ks) : PySem.W.nsIn K a z = some none := by
  unfold He.dicW at h
  unfold PySem.W.nsIn
  split at h
  · rename_i c es n sl e
    rw [e]
    simp only
    split at h
    · have h := Option.some.inj h
      have key : ∀ (l : List DictEntry) (ks : List Str), z ∉ ks → l.map He.keyOf = He.keysIn P ks → l.find? (·.key.isStr z) = none ∧ l.any (·.refKey) = false := by
        intro l
        induction l with
        | nil => intro ks _ _; exact ⟨rfl, rfl⟩
        | cons e r ih =>
          intro ks hz h
          cases ks with
          | nil => cases h
          | cons k ks =>
            have h1 : He.keyOf e :: r.map He.keyOf = some (k, PyData.keyHash P k) :: He.keysIn P ks := h
            injection h1 with h2 h3
            obtain ⟨i1, i2⟩ := ih ks (fun m => hz (List.mem_cons_of_mem _ m)) h3
            unfold He.keyOf at h2
            split at h2
            · rename_i x t q
              have h4 := Option.some.inj h2
              obtain ⟨rfl, h6⟩ := Prod.mk.inj h4
              have hne : (x == z) = false := by
                have : x ≠ z := fun e => hz (by rw [← e]; exact List.mem_cons_self)
                simpa using this
              refine ⟨?_, ?_⟩
              · rw [List.find?_cons, q]
                show (match (x == z) with | true => _ | false => _) = none
                rw [hne]
                exact i1
              · rw [List.any_cons, i2, Bool.or_false]
                unfold DictEntry.refKey
                rw [q]
            · cases h2
      obtain ⟨k1, k2⟩ := key _ _ hz h
      rw [k1]
      simp [k2]
    · cases h
  · cases h
theorem paired_vals {a : Addr} : ∀ {kvs : List (Str × He.Dv)}, (∀ q ∈ kvs, ∃ u, PySem.W.nsIn K a q.1 = some (some u) ∧ RelV (q.2.v K) u) → Paired (fun z v => ∃ u, PySem.W.nsIn K a z = some (some u) ∧ RelV v u) (kvs.map (·.1)) ((kvs.map (·.2)).map (He.Dv.v K))
  | [], _ => .nil
  | q :: r, h => .cons (h q List.mem_cons_self) (paired_vals fun p hp => h p (List.mem_cons_of_mem _ hp))
theorem gl_dic {x : Str} {kvs : List (Str × He.Dv)} {ds : List (D × D)} (h : He.dicW K (He.ga K x) = some (He.keysIn w.params (kvs.map (·.1)))) (hv : He.valsB K (He.ga K x) kvs = true) (hk : ds.map (fun p => p.1) = (kvs.map (·.1)).map PyData.str) (hs : scB (kvs.map (·.2)) (ds.map (fun p => p.2)) = true) :
    ∀ c : Cf, c.K = K → c.w = w → GlR c (.ref (He.ga K x)) (.dict ds) := fun c hK hw => by
  refine ⟨_, rfl, ?_⟩
  subst hK hw
  obtain ⟨es, n, kd⟩ := He.dicW_ok h
  exact .dic kd hk (paired_vals fun q hq => He.valsB_ok hv hq) (scB_ok hs) fun z hz => dic_out h hz
theorem gl_int (i : Int) : ∀ c : Cf, c.K = K → c.w = w → GlR c (.int i) (.int i) := fun c _ _ H A => .int i
theorem gl_str (x : Str) : ∀ c : Cf, c.K = K → c.w = w → GlR c (.str x) (.str x) := fun c _ _ H A => .str x
end
/-- facts of all defs, one behind another -/
def AllF (Pp : Nat → FnT → Prop) : Nat → List FnT → Prop
  | _, [] => True
  | i, t :: r => Pp i t ∧ AllF Pp (i + 1) r
theorem AllF.get {Pp : Nat → FnT → Prop} : ∀ {T : List FnT} {i : Nat}, AllF Pp i T → ∀ f t, T[f]? = some t → Pp (i + f) t
  | [], _, _, f, t, e => by simp at e
  | a :: r, i, h, 0, t, e => by simp at e; subst e; exact h.1
  | a :: r, i, h, f + 1, t, e => by
    have := AllF.get h.2 f t (by simpa using e)
    rw [show i + (f + 1) = i + 1 + f by omega]
    exact this
theorem AllF.all {Pp : Nat → FnT → Prop} {T : List FnT} (h : AllF Pp 0 T) (f : Nat) (t : FnT) (e : T[f]? = some t) : Pp f t := by
  have := h.get f t e
  rwa [Nat.zero_add] at this
def AllG (Pp : Nat → Str → D → Prop) : Nat → List Str → List D → Prop
  | _, [], _ => True
  | _, _, [] => True
  | i, n :: r, d :: t => Pp i n d ∧ AllG Pp (i + 1) r t
theorem AllG.get {Pp : Nat → Str → D → Prop} : ∀ {gl : List Str} {G : List D} {i : Nat}, AllG Pp i gl G → ∀ f n d, gl[f]? = some n → nth G f = some d → Pp (i + f) n d
  | [], _, _, _, f, n, d, e, _ => by simp at e
  | _ :: _, [], _, _, f, n, d, _, e => by simp [nth] at e
  | a :: r, b :: t, i, h, 0, n, d, e, e2 => by simp at e; simp [nth] at e2; subst e e2; exact h.1
  | a :: r, b :: t, i, h, f + 1, n, d, e, e2 => by
    have := AllG.get h.2 f n d (by simpa using e) (by simpa [nth] using e2)
    rw [show i + (f + 1) = i + 1 + f by omega]
    exact this
theorem AllG.all {Pp : Nat → Str → D → Prop} {gl : List Str} {G : List D} (h : AllG Pp 0 gl G) (f : Nat) (n : Str) (d : D) (e : gl[f]? = some n) (e2 : nth G f = some d) : Pp f n d := by
  have := h.get f n d e e2
  rwa [Nat.zero_add] at this
theorem noKw {kw : List (Nat × List Str × List Nat)} {i : Nat} {Q : List Str → List Nat → Prop} (h : (kw.all fun t => !Nat.beq t.1 i) = true) : ∀ ks pm, (i, ks, pm) ∈ kw → Q ks pm := fun ks pm m => by
  have := List.all_eq_true.mp h _ m
  simp at this
theorem kwFind {kw : List (Nat × List Str × List Nat)} {i : Nat} {l : List (List Str × List Nat)} (h : (kw.filter fun t => Nat.beq t.1 i).map (fun t => t.2) = l) : ∀ ks pm, (i, ks, pm) ∈ kw → (ks, pm) ∈ l := fun ks pm m => by
  rw [← h]
  exact List.mem_map.mpr ⟨(i, ks, pm), List.mem_filter.mpr ⟨m, Nat.beq_refl i⟩, rfl⟩
theorem tabE {fa : List He.Fa} {fn : List He.DefD} {ts : List He.Tab} {w : World} {K : PySem.W.Frag} (c : He.SaysT fa fn ts w K) (i : Nat) {t : He.Tab} (h : ts[i]? = some t) : He.dicW K (t.1 K) = some (He.keysIn w.params t.2) := by
  have e : (ts.map fun t => He.dicW K (t.1 K)) = ts.map fun t => some (He.keysIn w.params t.2) := congrArg (fun z : He.AlT => z.2) c
  have e2 := congrArg (fun l => l[i]?) e
  simp only [List.getElem?_map, h, Option.map_some] at e2
  exact Option.some.inj e2
theorem gl_intF {K : PySem.W.Frag} {w : World} {mg : Str → Option Value} {x : Str} {i : Int} (h : ∃ t, mg x = some (.int i t)) : ∃ u v, mg x = some u ∧ RelV v u ∧ ∀ c : Cf, c.K = K → c.w = w → GlR c v (.int i) :=
  let ⟨t, e⟩ := h
  ⟨_, .int i, e, ⟨t, rfl⟩, gl_int i⟩
theorem gl_strF {K : PySem.W.Frag} {w : World} {mg : Str → Option Value} {x z : Str} (h : ∃ t, mg x = some (.str z t)) : ∃ u v, mg x = some u ∧ RelV v u ∧ ∀ c : Cf, c.K = K → c.w = w → GlR c v (.str z) :=
  let ⟨t, e⟩ := h
  ⟨_, .str z, e, ⟨t, rfl⟩, gl_str z⟩
/-- a call by keywords alone -/
theorem vals_perm {pm : List Nat} : ∀ {zs : List V} {ws : List Value}, Vals zs ws → Vals (permL zs pm) (permL ws pm) := by
  intro zs ws r
  unfold permL
  induction pm with
  | nil => exact .nil
  | cons i pm ih =>
    rw [List.filterMap_cons, List.filterMap_cons]
    cases e : zs[i]? with
    | none =>
      have : ws[i]? = none := by
        have hl := r.length
        rw [List.getElem?_eq_none_iff] at e ⊢
        omega
      rw [this]
      exact ih
    | some v =>
      obtain ⟨u, hu, ru⟩ := r.get e
      rw [hu]
      exact .cons ru ih
theorem kb_of {K : PySem.W.Frag} {x qual : Str} {params : Arguments} {body : List Stmt} {scope : Scope} {f : Addr} {fd : FuncData} {ps ks : List Str} {pm : List Nat} (F : FunD K x qual params body scope [] [] f fd) (hps : ps ≠ [])
    (h : ∀ (kV doc pm' : Value) (an : Option Addr) (cdv ct : Value) (ws : List Value), (permL ws pm).length = ps.length → bindArgs (PySem.W.fnOf x qual params body scope .none kV doc pm' an cdv ct) ⟨[], ks.zip ws⟩ = pure (ps.zip (permL ws pm))) : KBinds K fd ps ks (permG pm) (permG pm) := by
  obtain ⟨oc, od, dV, kV, doc, pmv, an, cdv, ct, osl, rfl, lk, hcd, hd, _⟩ := F.ex
  have e : dV = .none := by
    rcases hd with ⟨_, e⟩ | ⟨z, _⟩
    · exact e
    · exact absurd rfl z
  subst e
  refine ⟨fun s us ws KX hl => ?_, fun {vs us zs ws} rv rz => ?_⟩
  · cases us with
    | nil =>
      have := h kV doc pmv an cdv ct ws hl
      intro M A E Q q
      rw [show bindArgs (PySem.W.fnOf x qual params body scope .none kV doc pmv an cdv ct) ⟨[], ks.zip ws⟩ = _ from this]
      exact wpAny_pure q
    | cons u r =>
      simp only [permG, List.length_nil] at hl
      exact absurd (List.eq_nil_of_length_eq_zero hl.symm) hps
  · cases rv with
    | nil => exact vals_perm rz
    | cons _ _ => exact .nil
end Og

end
section
set_option Elab.async false
set_option linter.all false
set_option maxRecDepth 100000
/-! Laws of the parts, for symbolic runs. -/
namespace Og
open PySem
/-- a def stands at its number -/
class Fn (F : List Og.Def) (i : Nat) (d : outParam Og.Def) : Prop where
  at_ : F[i]? = some d
class Gc (G : List D) (i : Nat) (d : outParam D) : Prop where
  at_ : nth G i = some d
def fnEnd : Out → RE
  | .ret x f h => .ok x f h
  | .nx _ h => .ok .none .pl h
  | _ => .no
section
variable {o : Hist → Int → Int} {G : List D} {F : List Og.Def} {W n : Nat} {φ : Nat → List Arg → Hist → RE} {σ σ' : Sl} {h h' : Hist}
theorem call_eq (f : Nat) {d : Og.Def} [Fn F f d] {as : List Arg} (hl : Nat.beq as.length d.np = true) : callN o G F W (n + 1) f as h = fnEnd (exec o G (callN o G F W n) W d.body (padS d.ns as) h) := by
  simp only [callN, Fn.at_ (F := F) (i := f) (d := d), hl]
  cases exec o G (callN o G F W n) W d.body (padS d.ns as) h <;> rfl
theorem glo_eq (i : Nat) {d : D} [Gc G i d] : nth G i = some d := Gc.at_
/-! ### numbers -/
theorem leI_dec (a b : Int) : leI a b = decide (a ≤ b) := by
  unfold leI
  cases a with
  | ofNat m =>
    cases b with
    | ofNat n => simp only [Int.ofNat_eq_natCast]; rw [Bool.eq_iff_iff, Nat.ble_eq]; simp
    | negSucc n => simp only [Int.ofNat_eq_natCast]; symm; rw [decide_eq_false_iff_not]; omega
  | negSucc m =>
    cases b with
    | ofNat n => simp only [Int.ofNat_eq_natCast]; symm; rw [decide_eq_true_eq]; omega
    | negSucc n => rw [Bool.eq_iff_iff, Nat.ble_eq]; simp only [decide_eq_true_eq]; omega
theorem ltI_dec (a b : Int) : ltI a b = decide (a < b) := by
  unfold ltI; rw [leI_dec]; congr 1
theorem eqI_dec (a b : Int) : eqI a b = decide (a = b) := by
  unfold eqI
  cases a with
  | ofNat m =>
    cases b with
    | ofNat n => rw [Bool.eq_iff_iff, Nat.beq_eq]; simp; omega
    | negSucc n => simp
  | negSucc m =>
    cases b with
    | ofNat n => simp
    | negSucc n => rw [Bool.eq_iff_iff, Nat.beq_eq]; simp
theorem small_of {i : Int} (h : -18446744073709551616 < i) (h2 : i < 18446744073709551616) : small i = true := by
  unfold small
  cases i with
  | ofNat n => exact Nat.blt_eq.mpr (by simp only [Int.ofNat_eq_natCast] at h2; omega)
  | negSucc n => exact Nat.blt_eq.mpr (by omega)
theorem wide_of {i : Int} (h : -4611686018427387904 ≤ i) (h2 : i < 4611686018427387904) : wide i = true := by
  unfold wide; rw [leI_dec, ltI_dec]; simp; omega
theorem lenOk_of {n : Nat} (h : n ≤ 16777216) : lenOk n = true := Nat.ble_eq.mpr h
theorem toInt_len (n : Nat) : ((n : Int)).toNat = n := by simp
/-! ### shapes -/
theorem sh_int (i : Int) : SeqAt.shaped (.int i) = true := by simp [SeqAt.shaped, PyData.canLay0, PyData.depth]
theorem sh_bool (i : Bool) : SeqAt.shaped (.bool i) = true := by simp [SeqAt.shaped, PyData.canLay0, PyData.depth]
theorem sh_none : SeqAt.shaped .none = true := by simp [SeqAt.shaped, PyData.canLay0, PyData.depth]
theorem lay_dI : ∀ l : List Int, PyData.canLayAll0 (dI l) = true ∧ PyData.depthAll (dI l) = 0
  | [] => ⟨by simp [dI, PyData.canLayAll0], by simp [dI, PyData.depthAll]⟩
  | i :: l => by
    obtain ⟨a, b⟩ := lay_dI l
    have e : dI (i :: l) = .int i :: dI l := rfl
    rw [e]
    exact ⟨by simp [PyData.canLayAll0, PyData.canLay0, a], by simp [PyData.depthAll, PyData.depth, b]⟩
theorem sh_tupI (l : List Int) : SeqAt.shaped (.tuple (dI l)) = true := by
  obtain ⟨a, b⟩ := lay_dI l
  simp [SeqAt.shaped, PyData.canLay0, PyData.depth, a, b]
theorem sh_lstI (l : List Int) : SeqAt.shaped (.list (dI l)) = true := by
  obtain ⟨a, b⟩ := lay_dI l
  simp [SeqAt.shaped, PyData.canLay0, PyData.depth, a, b]
theorem shL_dI : ∀ l : List Int, shapedL (dI l) = true
  | [] => rfl
  | i :: l => by
    have e : dI (i :: l) = .int i :: dI l := rfl
    rw [e]
    unfold shapedL
    rw [List.all_cons, sh_int]
    exact shL_dI l
theorem inD_dI (i : Int) : ∀ l : List Int, inD (.int i) (dI l) = decide (i ∈ l)
  | [] => by simp [inD, dI]
  | j :: l => by
    have e : dI (j :: l) = .int j :: dI l := rfl
    rw [e]
    unfold inD
    rw [List.any_cons]
    have ih := inD_dI i l
    unfold inD at ih
    rw [ih]
    have e2 : PyData.eqv (.int j) (.int i) = decide (i = j) := by
      rw [PyData.eqv, Bool.eq_iff_iff]
      simp only [beq_iff_eq, decide_eq_true_eq]
      exact eq_comm
    rw [e2]
    by_cases hij : i = j <;> simp [hij]
theorem intsD_dI : ∀ l : List Int, intsD (dI l) = some l
  | [] => rfl
  | i :: l => by
    have e : dI (i :: l) = .int i :: dI l := rfl
    rw [e]; simp only [intsD, intsD_dI l]
theorem dI_len (l : List Int) : (dI l).length = l.length := by simp [dI]
theorem dI_take (n : Nat) (l : List Int) : (dI l).take n = dI (l.take n) := by simp [dI, List.map_take]
theorem dI_drop (n : Nat) (l : List Int) : (dI l).drop n = dI (l.drop n) := by simp [dI, List.map_drop]
theorem dI_app (l m : List Int) : dI l ++ dI m = dI (l ++ m) := by simp [dI]
theorem dI_nth (l : List Int) (k : Nat) : nth (dI l) k = (l[k]?).map PyData.int := by
  induction l generalizing k with
  | nil => simp [dI, nth]
  | cons a l ih =>
    have e : dI (a :: l) = .int a :: dI l := rfl
    rw [e]
    cases k with
    | zero => simp [nth]
    | succ k => simp [nth, ih]
/-! ### comparisons -/
theorem cEq_int (a b : Int) : cEq (.int a) (.int b) h = .ok (.bool (decide (a = b))) .pl h := by
  unfold cEq
  rw [sh_int, sh_int]
  simp only [Bool.and_self]
  rw [mkB_eq]
  have e2 : PyData.eqv (.int a) (.int b) = decide (a = b) := by
    rw [PyData.eqv, Bool.eq_iff_iff]; simp only [beq_iff_eq, decide_eq_true_eq]
  rw [e2]
theorem cNe_int (a b : Int) : cNe (.int a) (.int b) h = .ok (.bool (!decide (a = b))) .pl h := by
  unfold cNe
  rw [sh_int, sh_int]
  simp only [Bool.and_self]
  rw [mkB_eq]
  have e2 : PyData.eqv (.int a) (.int b) = decide (a = b) := by
    rw [PyData.eqv, Bool.eq_iff_iff]; simp only [beq_iff_eq, decide_eq_true_eq]
  rw [e2]
theorem cLt_int (a b : Int) : cLt (.int a) (.int b) h = .ok (.bool (decide (a < b))) .pl h := by
  simp only [cLt, mkB_eq, ltI_dec]
theorem cLe_int (a b : Int) : cLe (.int a) (.int b) h = .ok (.bool (decide (a ≤ b))) .pl h := by
  simp only [cLe, mkB_eq, leI_dec]
theorem cIn_tupI (neg : Bool) (a : Int) (l : List Int) : cIn neg (.int a) (.tuple (dI l)) h = .ok (.bool (neg != decide (a ∈ l))) .pl h := by
  simp only [cIn, sh_int, shL_dI, Bool.and_self, mkB_eq, inD_dI]
theorem cIn_lstI (neg : Bool) (a : Int) (l : List Int) : cIn neg (.int a) (.list (dI l)) h = .ok (.bool (neg != decide (a ∈ l))) .pl h := by
  simp only [cIn, sh_int, shL_dI, Bool.and_self, mkB_eq, inD_dI]
/-! ### the three words -/
inductive W3 where
  | new | beside | between
  deriving DecidableEq
def wS : W3 → Str
  | .new => "new"
  | .beside => "beside"
  | .between => "between"
theorem s_new : Str.ofString "new" = wS .new := rfl
theorem s_beside : Str.ofString "beside" = wS .beside := rfl
theorem s_between : Str.ofString "between" = wS .between := rfl
theorem sh_w (w : W3) : SeqAt.shaped (.str (wS w)) = true := by cases w <;> decide +kernel
theorem eqv_w (a b : W3) : PyData.eqv (.str (wS a)) (.str (wS b)) = decide (a = b) := by cases a <;> cases b <;> decide +kernel
theorem cEq_w (a b : W3) : cEq (.str (wS a)) (.str (wS b)) h = .ok (.bool (decide (a = b))) .pl h := by
  simp only [cEq, sh_w, Bool.and_self, mkB_eq, eqv_w]
theorem cNe_w (a b : W3) : cNe (.str (wS a)) (.str (wS b)) h = .ok (.bool (!decide (a = b))) .pl h := by
  simp only [cNe, sh_w, Bool.and_self, mkB_eq, eqv_w]
theorem mulV_int {a b : Int} (hs : small a = true) : mulV (.int a) (.int b) h = .ok (.int (a * b)) .pl h := by
  simp only [mulV, hs, Bool.true_or, mkI_eq]
theorem mulV_int2 {a b : Int} (hs : small b = true) : mulV (.int a) (.int b) h = .ok (.int (a * b)) .pl h := by
  simp only [mulV, hs, Bool.or_true, mkI_eq]
/-! ### comprehensions and loops -/
theorem comp_pure {tg : Tg} {t e : Sl → Hist → RE} {p : D → Bool} {g : D → D} : ∀ {ys : List D}, (∀ y ∈ ys, ∃ σ', asgT tg y σ = some σ' ∧ (∃ f, t σ' h = .ok (.bool (p y)) f h) ∧ (p y = true → ∃ f, f ≠ .wk ∧ f ≠ .ct ∧ e σ' h = .ok (g y) f h)) →
    compL tg t e σ ys h = .ok ((ys.filter p).map g) h
  | [], _ => rfl
  | y :: ys, hy => by
    obtain ⟨σ', h1, ⟨f, h2⟩, h3⟩ := hy y (by simp)
    have ih := comp_pure (ys := ys) fun z hz => hy z (by simp [hz])
    simp only [compL, h1, h2]
    cases hp : p y with
    | false => simp only [ih, List.filter_cons, hp]; rfl
    | true =>
      obtain ⟨f2, n1, n2, h4⟩ := h3 hp
      simp only [h4, ih, List.filter_cons, hp]
      cases f2 <;> first | exact absurd rfl n1 | exact absurd rfl n2 | rfl
theorem comp_ints {k : Nat} {t e : Sl → Hist → RE} {p : Int → Bool} {g : Int → D} : ∀ {l : List Int}, (∀ i ∈ l, (∃ f, t (setS σ k (some (.d (.int i)))) h = .ok (.bool (p i)) f h) ∧ (p i = true → ∃ f, f ≠ .wk ∧ f ≠ .ct ∧ e (setS σ k (some (.d (.int i)))) h = .ok (g i) f h)) →
    compL (.nm k) t e σ (dI l) h = .ok ((l.filter p).map g) h
  | [], _ => rfl
  | i :: l, hy => by
    obtain ⟨⟨f, h2⟩, h3⟩ := hy i (by simp)
    have ih := comp_ints (l := l) fun z hz => hy z (by simp [hz])
    have e : dI (i :: l) = .int i :: dI l := rfl
    rw [e]
    simp only [compL, asgT, h2]
    cases hp : p i with
    | false => simp only [ih, List.filter_cons, hp]; rfl
    | true =>
      obtain ⟨f2, n1, n2, h4⟩ := h3 hp
      simp only [h4, ih, List.filter_cons, hp]
      cases f2 <;> first | exact absurd rfl n1 | exact absurd rfl n2 | rfl
def mapI {α β : Type} (g : Nat → α → β) : Nat → List α → List β
  | _, [] => []
  | i, x :: l => g i x :: mapI g (i + 1) l
theorem mapI_len {α β : Type} (g : Nat → α → β) : ∀ (i : Nat) (l : List α), (mapI g i l).length = l.length
  | _, [] => rfl
  | i, x :: l => by simp [mapI, mapI_len g (i + 1) l]
theorem mapI_map {α β γ : Type} (g : Nat → α → β) (f : β → γ) : ∀ (i : Nat) (l : List α), (mapI g i l).map f = mapI (fun i x => f (g i x)) i l
  | _, [] => rfl
  | i, x :: l => by simp [mapI, mapI_map g f (i + 1) l]
theorem comp_enum {α : Type} {enc : α → D} {a b : Nat} {t e : Sl → Hist → RE} {g : Nat → α → D} : ∀ (i : Nat) (l : List α), (∀ j x, l[j]? = some x → (∃ f, t (setS (setS σ a (some (.d (.int ((i + j : Nat) : Int))))) b (some (.d (enc x)))) h = .ok (.bool true) f h) ∧ ∃ f, f ≠ .wk ∧ f ≠ .ct ∧ e (setS (setS σ a (some (.d (.int ((i + j : Nat) : Int))))) b (some (.d (enc x)))) h = .ok (g (i + j) x) f h) →
    compL (.cons (.nm a) (.cons (.nm b) .nil)) t e σ (enumD (i : Int) (l.map enc)) h = .ok (mapI g i l) h
  | i, [], _ => rfl
  | i, x :: l, hy => by
    obtain ⟨⟨f, h2⟩, f2, n1, n2, h4⟩ := hy 0 x rfl
    have ih := comp_enum (i + 1) l fun j x hj => by
      have := hy (j + 1) x (by simpa using hj)
      rw [show i + 1 + j = i + (j + 1) by omega]
      exact this
    rw [Nat.add_zero] at h2 h4
    simp only [List.map_cons, enumD, iF_eq, compL, asgT, h2, h4, mapI]
    simp only [show ((i : Int) + 1) = ((i + 1 : Nat) : Int) by omega, ih]
theorem lenOk_f {α β : Type} {l : List α} {p : α → Bool} {g : α → β} (hl : l.length ≤ 16777216) : lenOk ((l.filter p).map g).length = true := by
  apply lenOk_of
  rw [List.length_map]
  exact Nat.le_trans (List.length_filter_le _ _) hl
/-- a list or a tuple -/
def sq (b : Bool) (l : List D) : D := match b with
  | true => .list l
  | false => .tuple l
theorem sorted_sq (b : Bool) (l : List Int) : bltV .sorted [sq b (dI l)] h = .ok (.list (dI (srtI l))) .fr h := by
  cases b <;> simp only [sq, bltV, seqOf, intsD_dI]
theorem srtI_len : ∀ {l : List Int}, (srtI l).length = l.length
  | [] => rfl
  | x :: r => by
    have : ∀ {x : Int} {l : List Int}, (insI x l).length = l.length + 1 := by
      intro x l
      induction l with
      | nil => rfl
      | cons y r ih => unfold insI; split; rfl; simp [ih]
    simp [srtI, this, srtI_len (l := r)]
theorem cIn_sq (b neg : Bool) (a : Int) (l : List Int) : cIn neg (.int a) (sq b (dI l)) h = .ok (.bool (neg != decide (a ∈ l))) .pl h := by
  cases b
  · exact cIn_tupI neg a l
  · exact cIn_lstI neg a l
theorem for_pure {tg : Tg} {b : Sl → Hist → Out} (P : List D → Sl → Prop) {ys : List D} (h0 : P [] σ)
    (step : ∀ done y rest σ, ys = done ++ y :: rest → P done σ → ∃ σ1 σ', asgT tg y σ = some σ1 ∧ (b σ1 h = .nx σ' h ∨ b σ1 h = .ct σ' h) ∧ P (done ++ [y]) σ') : ∃ σ', forL tg b ys σ h = .nx σ' h ∧ P ys σ' := by
  have key : ∀ (rest done : List D) (σ : Sl), ys = done ++ rest → P done σ → ∃ σ', forL tg b rest σ h = .nx σ' h ∧ P ys σ' := by
    intro rest
    induction rest with
    | nil => intro done σ e p; exact ⟨σ, rfl, by rw [e]; simpa using p⟩
    | cons y rest ih =>
      intro done σ e p
      obtain ⟨σ1, σ', h1, h2, h3⟩ := step done y rest σ e p
      obtain ⟨σ2, h4, h5⟩ := ih (done ++ [y]) σ' (by rw [e]; simp) h3
      refine ⟨σ2, ?_, h5⟩
      simp only [forL, h1]
      rcases h2 with h2 | h2 <;> rw [h2] <;> exact h4
  exact key ys [] σ rfl h0
end
end Og

end
section
set_option Elab.async false
set_option linter.all false
set_option maxRecDepth 100000
namespace Lw
open PySem Og
/-- is_number: 0 thing -/
def b0 : Og.S := (.ret (.and (.blt .isInt (.cons (.var 0) .nil)) (.not (.blt .isBool (.cons (.var 0) .nil)))))
abbrev d0 : Og.Def := ⟨1, 1, b0⟩
/-- is_row: 0 plots 1 thing 2 plot -/
def b1 : Og.S := (.seq (.ifs (.or (.not (.blt .isTuple (.cons (.var 1) .nil))) (.not (.blt .all (.cons (.comp (.and (.call 0 (.cons (.var 2) .nil)) (.chn .le .lt (.int 0) (.var 2) (.var 0))) [2] (.nm 2) .seq (.cons (.var 1) .nil) .nil) .nil)))) (.ret (.bl false)) .skip) (.ret (.cmp .eq (.blt .lenset (.cons (.var 1) .nil)) (.blt .len (.cons (.var 1) .nil)))))
abbrev d1 : Og.Def := ⟨2, 3, b1⟩
/-- neighbours: 0 plot 1 there 2 other -/
def b2 : Og.S := (.ret (.blt .len (.cons (.comp (.var 2) [2] (.nm 2) .seq (.cons (.tup (.cons (.bin .sub (.var 0) (.int 1)) (.cons (.bin .add (.var 0) (.int 1)) .nil))) .nil) (.cons (.cmp .in_ (.var 2) (.var 1)) .nil)) .nil)))
abbrev d2 : Og.Def := ⟨2, 3, b2⟩
/-- houses: 0 row 1 counts 2 time 3 plot 4 count -/
def b3 : Og.S := (.seq (.asg (.nm 1) (.comp (.call 2 (.cons (.var 3) (.cons (.slc (.var 0) .nil (.cons (.var 2) .nil)) .nil))) [2, 3] (.cons (.nm 2) (.cons (.nm 3) .nil)) .enum (.cons (.var 0) .nil) .nil)) (.ret (.blt .tuple (.cons (.comp (.sub (.tup (.cons (.str "new") (.cons (.str "beside") (.cons (.str "between") .nil)))) (.var 4)) [4] (.nm 4) .seq (.cons (.var 1) .nil) .nil) .nil))))
abbrev d3 : Og.Def := ⟨1, 5, b3⟩
/-- _law_of: 0 box_here 1 some -/
def b6 : Og.S := (.ret (.sub (.var 1) (.take (.var 0) (.blt .len (.cons (.var 1) .nil)))))
abbrev d6 : Og.Def := ⟨2, 2, b6⟩
/-- _law_same: 0 found 1 due 2 a 3 b -/
def b7 : Og.S := (.seq (.ifs (.blt .isSeq (.cons (.var 1) .nil)) (.seq (.ifs (.or (.cmp .ne (.blt .isList (.cons (.var 0) .nil)) (.blt .isList (.cons (.var 1) .nil))) (.cmp .ne (.blt .isTuple (.cons (.var 0) .nil)) (.blt .isTuple (.cons (.var 1) .nil)))) (.ret (.bl false)) .skip) (.ret (.and (.cmp .eq (.blt .len (.cons (.var 0) .nil)) (.blt .len (.cons (.var 1) .nil))) (.blt .all (.cons (.comp (.call 7 (.cons (.var 2) (.cons (.var 3) .nil))) [2, 3] (.cons (.nm 2) (.cons (.nm 3) .nil)) .zip (.cons (.var 0) (.cons (.var 1) .nil)) .nil) .nil))))) .skip) (.seq (.ifs (.or (.cmp .is_ (.var 1) .non) (.blt .isBoolStr (.cons (.var 1) .nil))) (.ret (.and (.cmp .eq (.var 0) (.var 1)) (.and (.cmp .eq (.blt .isBool (.cons (.var 0) .nil)) (.blt .isBool (.cons (.var 1) .nil))) (.cmp .eq (.cmp .is_ (.var 0) .non) (.cmp .is_ (.var 1) .non))))) .skip) (.ret (.and (.blt .isInt (.cons (.var 0) .nil)) (.and (.not (.blt .isBool (.cons (.var 0) .nil))) (.cmp .eq (.var 0) (.var 1)))))))
abbrev d7 : Og.Def := ⟨2, 4, b7⟩
/-- _law_runs: 0 there 1 found 2 plot 3 some -/
def b9 : Og.S := (.seq (.own 1 (.lst .nil)) (.seq (.for_ (.nm 2) .seq (.cons (.blt .sorted (.cons (.var 0) .nil)) .nil) (.ifs (.and (.cmp .ne (.var 1) (.lst .nil)) (.cmp .eq (.sub (.sub (.var 1) (.neg (.int 1))) (.neg (.int 1))) (.bin .sub (.var 2) (.int 1)))) (.seq (.popTo 3 1) (.app 1 (.bin .add (.var 3) (.lst (.cons (.var 2) .nil))))) (.app 1 (.lst (.cons (.var 2) .nil))))) (.retOwn 1)))
abbrev d9 : Og.Def := ⟨1, 4, b9⟩
/-- _law_queue: 0 box_here 1 count 2 size 3 spot 4 left 5 found 6 near 7 some 8 plot -/
def b11 : Og.S := (.seq (.par [(4, false), (5, true), (6, false)] (.cons (.blt .listR (.cons (.var 1) .nil)) (.cons (.lst .nil) (.cons (.take (.var 0) (.int 3)) .nil)))) (.seq (.for_ (.nm 3) .rng1 (.cons (.var 2) .nil) (.seq (.asg (.nm 7) (.comp (.var 8) [8] (.nm 8) .seq (.cons (.var 4) .nil) (.cons (.or (.cmp .in_ (.bin .sub (.var 8) (.int 1)) (.var 5)) (.cmp .in_ (.bin .add (.var 8) (.int 1)) (.var 5))) .nil))) (.seq (.asg (.nm 7) (.ite (.and (.cmp .eq (.var 6) (.int 0)) (.and (.cmp .ne (.var 7) (.lst .nil)) (.cmp .gt (.take (.var 0) (.int 4)) (.int 0)))) (.var 7) (.var 4))) (.seq (.app 5 (.call 6 (.cons (.var 0) (.cons (.var 7) .nil)))) (.asg (.nm 4) (.comp (.var 8) [8] (.nm 8) .seq (.cons (.var 4) .nil) (.cons (.cmp .ne (.var 8) (.sub (.var 5) (.neg (.int 1)))) .nil))))))) (.ret (.blt .tuple (.cons (.var 5) .nil)))))
abbrev d11 : Og.Def := ⟨3, 9, b11⟩
/-- ways: 0 word 1 many -/
def b15 : Og.S := (.seq (.ifs (.cmp .eq (.var 0) (.str "new")) (.ret (.bin .add (.var 1) (.int 1))) .skip) (.ret (.ite (.cmp .eq (.var 0) (.str "beside")) (.bin .mul (.int 2) (.var 1)) (.blt .max2 (.cons (.int 0) (.cons (.bin .sub (.var 1) (.int 1)) .nil))))))
abbrev d15 : Og.Def := ⟨2, 2, b15⟩
/-- is_choice: 0 thing 1 many -/
def b16 : Og.S := (.seq (.ifs (.or (.not (.blt .isTuple (.cons (.var 0) .nil))) (.or (.cmp .ne (.blt .len (.cons (.var 0) .nil)) (.int 2)) (.or (.not (.blt .isStr (.cons (.sub (.var 0) (.int 0)) .nil))) (.cmp .nin (.sub (.var 0) (.int 0)) (.glo 0))))) (.ret (.bl false)) .skip) (.ret (.and (.call 0 (.cons (.sub (.var 0) (.int 1)) .nil)) (.chn .le .lt (.int 0) (.sub (.var 0) (.int 1)) (.call 15 (.cons (.sub (.var 0) (.int 0)) (.cons (.var 1) .nil)))))))
abbrev d16 : Og.Def := ⟨2, 2, b16⟩
/-- is_choices: 0 thing 1 many 2 part -/
def b17 : Og.S := (.seq (.ifs (.not (.blt .isTuple (.cons (.var 0) .nil))) (.ret (.bl false)) .skip) (.seq (.asg (.nm 1) (.int 0)) (.seq (.for_ (.nm 2) .seq (.cons (.var 0) .nil) (.seq (.ifs (.not (.call 16 (.cons (.var 2) (.cons (.var 1) .nil)))) (.ret (.bl false)) .skip) (.aug 1 .add (.sub (.glo 1) (.sub (.var 2) (.int 0)))))) (.ret (.bl true)))))
abbrev d17 : Og.Def := ⟨1, 3, b17⟩
/-- count_groups: 0 choices 1 word 2 number -/
def b18 : Og.S := (.ret (.blt .sum (.cons (.comp (.sub (.glo 1) (.var 1)) [1, 2] (.cons (.nm 1) (.cons (.nm 2) .nil)) .seq (.cons (.var 0) .nil) .nil) .nil)))
abbrev d18 : Og.Def := ⟨1, 3, b18⟩
/-- is_gaps: 0 choices 1 thing 2 gap -/
def b19 : Og.S := (.seq (.ifs (.or (.not (.blt .isTuple (.cons (.var 1) .nil))) (.cmp .ne (.blt .len (.cons (.var 1) .nil)) (.bin .add (.call 18 (.cons (.var 0) .nil)) (.int 1)))) (.ret (.bl false)) .skip) (.ret (.and (.blt .all (.cons (.comp (.and (.call 0 (.cons (.var 2) .nil)) (.cmp .ge (.var 2) (.int 0))) [2] (.nm 2) .seq (.cons (.var 1) .nil) .nil) .nil)) (.blt .all (.cons (.comp (.cmp .gt (.var 2) (.int 0)) [2] (.nm 2) .seq (.cons (.slc (.var 1) (.cons (.int 1) .nil) (.cons (.neg (.int 1)) .nil)) .nil) .nil) .nil)))))
abbrev d19 : Og.Def := ⟨2, 3, b19⟩
/-- starts: 0 there 1 plot -/
def b20 : Og.S := (.ret (.comp (.var 1) [1] (.nm 1) .seq (.cons (.blt .sorted (.cons (.var 0) .nil)) .nil) (.cons (.cmp .nin (.bin .sub (.var 1) (.int 1)) (.var 0)) .nil)))
abbrev d20 : Og.Def := ⟨1, 2, b20⟩
/-- choice_of: 0 plot 1 there 2 left 3 count 4 start -/
def b21 : Og.S := (.seq (.asg (.nm 2) (.blt .len (.cons (.comp (.var 4) [4] (.nm 4) .seq (.cons (.call 20 (.cons (.var 1) .nil)) .nil) (.cons (.cmp .lt (.var 4) (.var 0)) .nil)) .nil))) (.seq (.asg (.nm 3) (.call 2 (.cons (.var 0) (.cons (.var 1) .nil)))) (.seq (.ifs (.cmp .eq (.var 3) (.int 0)) (.ret (.tup (.cons (.str "new") (.cons (.var 2) .nil)))) .skip) (.seq (.ifs (.cmp .eq (.var 3) (.int 2)) (.ret (.tup (.cons (.str "between") (.cons (.bin .sub (.var 2) (.int 1)) .nil)))) .skip) (.ret (.tup (.cons (.str "beside") (.cons (.ite (.cmp .in_ (.bin .sub (.var 0) (.int 1)) (.var 1)) (.bin .add (.bin .mul (.int 2) (.bin .sub (.var 2) (.int 1))) (.int 1)) (.bin .mul (.int 2) (.var 2))) .nil))))))))
abbrev d21 : Og.Def := ⟨2, 5, b21⟩
/-- choices_of: 0 row 1 time 2 plot -/
def b22 : Og.S := (.ret (.blt .tuple (.cons (.comp (.call 21 (.cons (.var 2) (.cons (.slc (.var 0) .nil (.cons (.var 1) .nil)) .nil))) [1, 2] (.cons (.nm 1) (.cons (.nm 2) .nil)) .enum (.cons (.var 0) .nil) .nil) .nil)))
abbrev d22 : Og.Def := ⟨1, 3, b22⟩
/-- gaps_of: 0 plots 1 row 2 plot 3 found 4 gap -/
def b23 : Og.S := (.seq (.par [(3, true), (4, false)] (.cons (.lst .nil) (.cons (.int 0) .nil))) (.seq (.for_ (.nm 2) .rng1 (.cons (.var 0) .nil) (.ifs (.cmp .nin (.var 2) (.var 1)) (.aug 4 .add (.int 1)) (.ifs (.cmp .nin (.bin .sub (.var 2) (.int 1)) (.var 1)) (.seq (.app 3 (.var 4)) (.asg (.nm 4) (.int 0))) .skip))) (.ret (.blt .tuple (.cons (.bin .add (.var 3) (.lst (.cons (.var 4) .nil))) .nil)))))
abbrev d23 : Og.Def := ⟨2, 5, b23⟩
/-- grown: 0 some 1 time 2 choice 3 place 4 own 5 word 6 number -/
def b24 : Og.S := (.seq (.asg (.cons (.nm 5) (.cons (.nm 6) .nil)) (.var 2)) (.seq (.ifs (.cmp .eq (.var 5) (.str "new")) (.ret (.bin .add (.bin .add (.slc (.var 0) .nil (.cons (.var 6) .nil)) (.lst (.cons (.lst (.cons (.var 1) .nil)) .nil))) (.slc (.var 0) (.cons (.var 6) .nil) .nil))) .skip) (.seq (.ifs (.cmp .eq (.var 5) (.str "between")) (.ret (.bin .add (.bin .add (.slc (.var 0) .nil (.cons (.var 6) .nil)) (.lst (.cons (.bin .add (.bin .add (.sub (.var 0) (.var 6)) (.lst (.cons (.var 1) .nil))) (.sub (.var 0) (.bin .add (.var 6) (.int 1)))) .nil))) (.slc (.var 0) (.cons (.bin .add (.var 6) (.int 2)) .nil) .nil))) .skip) (.seq (.asg (.nm 3) (.bin .fdiv (.var 6) (.int 2))) (.seq (.asg (.nm 4) (.ite (.cmp .eq (.bin .mod (.var 6) (.int 2)) (.int 0)) (.bin .add (.lst (.cons (.var 1) .nil)) (.sub (.var 0) (.var 3))) (.bin .add (.sub (.var 0) (.var 3)) (.lst (.cons (.var 1) .nil))))) (.ret (.bin .add (.bin .add (.slc (.var 0) .nil (.cons (.var 3) .nil)) (.lst (.cons (.var 4) .nil))) (.slc (.var 0) (.cons (.bin .add (.var 3) (.int 1)) .nil) .nil))))))))
abbrev d24 : Og.Def := ⟨3, 7, b24⟩
/-- row_of: 0 choices 1 gaps 2 some 3 time 4 choice 5 found 6 plot 7 place 8 own -/
def b25 : Og.S := (.seq (.asg (.nm 2) (.lst .nil)) (.seq (.for_ (.cons (.nm 3) (.cons (.nm 4) .nil)) .enum (.cons (.var 0) .nil) (.asg (.nm 2) (.call 24 (.cons (.var 2) (.cons (.var 3) (.cons (.var 4) .nil)))))) (.seq (.par [(5, true), (6, false)] (.cons (.bin .mul (.lst (.cons (.int 0) .nil)) (.blt .len (.cons (.var 0) .nil))) (.cons (.int 0) .nil))) (.seq (.for_ (.cons (.nm 7) (.cons (.nm 8) .nil)) .enum (.cons (.var 2) .nil) (.seq (.aug 6 .add (.sub (.var 1) (.var 7))) (.for_ (.nm 3) .seq (.cons (.var 8) .nil) (.seq (.setsub 5 (.var 3) (.var 6)) (.aug 6 .add (.int 1)))))) (.ret (.blt .tuple (.cons (.var 5) .nil)))))))
abbrev d25 : Og.Def := ⟨2, 9, b25⟩
/-- _law_lists: 0 part 1 piece -/
def b26 : Og.S := (.ret (.ite (.blt .isSeq (.cons (.var 0) .nil)) (.comp (.call 26 (.cons (.var 1) .nil)) [1] (.nm 1) .seq (.cons (.var 0) .nil) .nil) (.var 0)))
abbrev d26 : Og.Def := ⟨1, 2, b26⟩
/-- _law_pick_of: 0 plot 1 there 2 runs_so 3 left 4 near 5 some 6 at -/
def b27 : Og.S := (.seq (.asg (.nm 2) (.call 9 (.cons (.var 1) .nil))) (.seq (.asg (.nm 3) (.blt .len (.cons (.comp (.var 5) [5] (.nm 5) .seq (.cons (.var 2) .nil) (.cons (.cmp .lt (.sub (.var 5) (.neg (.int 1))) (.var 0)) .nil)) .nil))) (.seq (.asg (.nm 4) (.comp (.var 6) [6, 5] (.cons (.nm 6) (.cons (.nm 5) .nil)) .enum (.cons (.var 2) .nil) (.cons (.or (.cmp .eq (.bin .sub (.var 0) (.int 1)) (.sub (.var 5) (.neg (.int 1)))) (.cmp .eq (.bin .add (.var 0) (.int 1)) (.sub (.var 5) (.int 0)))) .nil))) (.seq (.ifs (.cmp .eq (.var 4) (.lst .nil)) (.ret (.tup (.cons (.str "new") (.cons (.var 3) .nil)))) .skip) (.seq (.ifs (.cmp .eq (.blt .len (.cons (.var 4) .nil)) (.int 2)) (.ret (.tup (.cons (.str "between") (.cons (.sub (.var 4) (.int 0)) .nil)))) .skip) (.ret (.tup (.cons (.str "beside") (.cons (.bin .add (.bin .mul (.int 2) (.sub (.var 4) (.int 0))) (.blt .int1 (.cons (.cmp .lt (.sub (.sub (.var 2) (.sub (.var 4) (.int 0))) (.neg (.int 1))) (.var 0)) .nil))) .nil)))))))))
abbrev d27 : Og.Def := ⟨2, 7, b27⟩
/-- _law_picks: 0 queue_here 1 spot 2 plot -/
def b28 : Og.S := (.ret (.blt .tuple (.cons (.comp (.call 27 (.cons (.var 2) (.cons (.slc (.var 0) .nil (.cons (.var 1) .nil)) .nil))) [1, 2] (.cons (.nm 1) (.cons (.nm 2) .nil)) .enum (.cons (.var 0) .nil) .nil) .nil)))
abbrev d28 : Og.Def := ⟨1, 3, b28⟩
/-- _law_holes: 0 count 1 queue_here 2 some 3 runs_so 4 found 5 begin -/
def b29 : Og.S := (.seq (.par [(3, false), (4, true), (5, false)] (.cons (.call 9 (.cons (.var 1) .nil)) (.cons (.lst .nil) (.cons (.int 0) .nil)))) (.seq (.for_ (.nm 2) .seq (.cons (.var 3) .nil) (.seq (.app 4 (.bin .sub (.sub (.var 2) (.int 0)) (.var 5))) (.asg (.nm 5) (.bin .add (.sub (.var 2) (.neg (.int 1))) (.int 1))))) (.ret (.blt .tuple (.cons (.bin .add (.var 4) (.lst (.cons (.bin .sub (.var 0) (.var 5)) .nil))) .nil)))))
abbrev d29 : Og.Def := ⟨2, 6, b29⟩
/-- _law_right: 0 box_here 1 count 2 queue_here 3 holes_here 4 told 5 soft 6 listed 7 picks_here -/
def b30 : Og.S := (.seq (.asg (.nm 1) (.take (.var 0) (.int 17))) (.seq (.asg (.nm 2) (.call 11 (.cons (.var 0) (.cons (.var 1) (.cons (.take (.var 0) (.bin .add (.var 1) (.int 1))) .nil))))) (.seq (.par [(6, false), (7, false)] (.cons (.blt .list (.cons (.var 2) .nil)) (.cons (.call 28 (.cons (.var 2) .nil)) .nil))) (.seq (.asg (.nm 3) (.call 29 (.cons (.var 1) (.cons (.var 2) .nil)))) (.seq (.asg (.nm 4) (.lst (.cons (.call 22 (.cons (.var 2) .nil)) (.cons (.callk 22 [0] (.cons (.var 6) .nil)) .nil)))) (.seq (.ifs (.not (.call 7 (.cons (.var 4) (.cons (.lst (.cons (.var 7) (.cons (.var 7) .nil))) .nil)))) (.ret (.bl false)) .skip) (.seq (.asg (.nm 4) (.lst (.cons (.call 23 (.cons (.var 1) (.cons (.var 2) .nil))) (.cons (.callk 23 [1, 0] (.cons (.var 6) (.cons (.var 1) .nil))) .nil)))) (.seq (.ifs (.not (.call 7 (.cons (.var 4) (.cons (.lst (.cons (.var 3) (.cons (.var 3) .nil))) .nil)))) (.ret (.bl false)) .skip) (.seq (.asg (.nm 5) (.call 26 (.cons (.var 7) .nil))) (.seq (.asg (.nm 4) (.lst (.cons (.call 25 (.cons (.var 7) (.cons (.var 3) .nil))) (.cons (.callk 25 [1, 0] (.cons (.blt .list (.cons (.var 3) .nil)) (.cons (.var 5) .nil))) .nil)))) (.seq (.ifs (.not (.call 7 (.cons (.var 4) (.cons (.lst (.cons (.var 2) (.cons (.var 2) .nil))) .nil)))) (.ret (.bl false)) .skip) (.seq (.ifs (.or (.cmp .isn (.call 17 (.cons (.var 7) .nil)) (.bl true)) (.or (.cmp .isn (.call 19 (.cons (.var 7) (.cons (.var 3) .nil))) (.bl true)) (.cmp .isn (.call 19 (.cons (.var 5) (.cons (.var 3) .nil))) (.bl true)))) (.ret (.bl false)) .skip) (.ret (.and (.cmp .eq (.var 6) (.blt .list (.cons (.var 2) .nil))) (.cmp .eq (.var 5) (.call 26 (.cons (.var 7) .nil)))))))))))))))))
abbrev d30 : Og.Def := ⟨1, 8, b30⟩
end Lw

end
section
set_option Elab.async false
set_option linter.all false
set_option maxRecDepth 100000
/-! Runs of plots: plain mathematics. -/
namespace Og
/-! ### sorting ints -/
theorem mem_insI' {x y : Int} : ∀ {l : List Int}, y ∈ insI x l ↔ y = x ∨ y ∈ l
  | [] => by simp [insI]
  | z :: r => by
    unfold insI
    split
    · simp
    · simp only [List.mem_cons, mem_insI' (l := r)]
      constructor
      · rintro (h | h | h) <;> simp [h]
      · rintro (h | h | h) <;> simp [h]
theorem mem_srtI' {y : Int} : ∀ {l : List Int}, y ∈ srtI l ↔ y ∈ l
  | [] => by simp [srtI]
  | x :: r => by simp [srtI, mem_insI', mem_srtI' (l := r)]
/-- strictly ascending -/
abbrev Asc (l : List Int) : Prop := l.Pairwise (· < ·)
theorem ins_asc {x : Int} : ∀ {l : List Int}, Asc l → x ∉ l → Asc (insI x l)
  | [], _, _ => by simp [insI]
  | y :: r, h, n => by
    obtain ⟨h1, h2⟩ := List.pairwise_cons.mp h
    have nx : x ≠ y := fun e => n (by simp [e])
    unfold insI
    split
    · rename_i e
      have e : x ≤ y := by rw [leI_dec] at e; simpa using e
      refine List.pairwise_cons.mpr ⟨fun z hz => ?_, h⟩
      rcases List.mem_cons.mp hz with rfl | q
      · omega
      · have := h1 z q; omega
    · rename_i e
      have e : ¬ x ≤ y := by rw [leI_dec] at e; simpa using e
      refine List.pairwise_cons.mpr ⟨fun z hz => ?_, ins_asc h2 fun m => n (List.mem_cons_of_mem _ m)⟩
      rcases mem_insI'.mp hz with rfl | q
      · omega
      · exact h1 z q
theorem srt_asc : ∀ {l : List Int}, l.Nodup → Asc (srtI l)
  | [], _ => by simp [srtI]
  | x :: r, h => by
    obtain ⟨h1, h2⟩ := List.nodup_cons.mp h
    exact ins_asc (srt_asc h2) fun m => h1 (mem_srtI'.mp m)
theorem asc_uniq : ∀ {a b : List Int}, Asc a → Asc b → (∀ k, k ∈ a ↔ k ∈ b) → a = b
  | [], [], _, _, _ => rfl
  | [], y :: r, _, _, h => by have := (h y).mpr (by simp); simp at this
  | x :: r, [], _, _, h => by have := (h x).mp (by simp); simp at this
  | x :: r, y :: t, ha, hb, h => by
    obtain ⟨a1, a2⟩ := List.pairwise_cons.mp ha
    obtain ⟨b1, b2⟩ := List.pairwise_cons.mp hb
    have e : x = y := by
      have hx := (h x).mp (by simp)
      have hy := (h y).mpr (by simp)
      rcases List.mem_cons.mp hx with e | e
      · exact e
      · rcases List.mem_cons.mp hy with e2 | e2
        · exact e2.symm
        · have := b1 x e; have := a1 y e2; omega
    subst e
    rw [asc_uniq a2 b2 fun k => ?_]
    constructor
    · intro m
      rcases List.mem_cons.mp ((h k).mp (List.mem_cons_of_mem _ m)) with e | e
      · have := a1 k m; omega
      · exact e
    · intro m
      rcases List.mem_cons.mp ((h k).mpr (List.mem_cons_of_mem _ m)) with e | e
      · have := b1 k m; omega
      · exact e
/-! ### runs: each by its first plot and its length -/
/-- k neighbouring plots from a on -/
def seg (a : Int) : Nat → List Int
  | 0 => []
  | k + 1 => a :: seg (a + 1) k
theorem seg_len : ∀ (a : Int) (k : Nat), (seg a k).length = k
  | _, 0 => rfl
  | a, k + 1 => by simp [seg, seg_len (a + 1) k]
theorem mem_seg {x : Int} : ∀ {a : Int} {k : Nat}, x ∈ seg a k ↔ a ≤ x ∧ x < a + k
  | a, 0 => by simp [seg]
  | a, k + 1 => by
    simp only [seg, List.mem_cons, mem_seg (a := a + 1) (k := k)]
    omega
theorem seg_snoc : ∀ (a : Int) (k : Nat), seg a (k + 1) = seg a k ++ [a + k]
  | a, 0 => by simp [seg]
  | a, k + 1 => by
    have := seg_snoc (a + 1) k
    rw [seg, this, seg]
    simp; omega
theorem seg_get : ∀ (a : Int) (k i : Nat), i < k → (seg a k)[i]? = some (a + i)
  | a, 0, i, h => by omega
  | a, k + 1, 0, h => by simp [seg]
  | a, k + 1, i + 1, h => by
    simp only [seg, List.getElem?_cons_succ]
    rw [seg_get (a + 1) k i (by omega)]
    congr 1; omega
theorem seg_app : ∀ (a : Int) (k m : Nat), seg a (k + m) = seg a k ++ seg (a + k) m
  | a, 0, m => by simp [seg]
  | a, k + 1, m => by
    have e : k + 1 + m = (k + m) + 1 := by omega
    rw [e, seg, seg, seg_app (a + 1) k m]
    have : a + 1 + (k : Int) = a + ((k + 1 : Nat) : Int) := by omega
    rw [this]; rfl
/-- intervals: first plot, how many more; apart from one another, ascending, from lo on -/
def Ivs (lo : Int) : List (Int × Nat) → Prop
  | [] => True
  | (a, k) :: r => lo ≤ a ∧ Ivs (a + k + 2) r
def segs (r : List (Int × Nat)) : List (List Int) := r.map fun p => seg p.1 (p.2 + 1)
theorem Ivs.mono : ∀ {r : List (Int × Nat)} {lo lo' : Int}, lo' ≤ lo → Ivs lo r → Ivs lo' r
  | [], _, _, _, _ => trivial
  | (a, k) :: r, lo, lo', h, ⟨h1, h2⟩ => ⟨by omega, h2⟩
theorem Ivs.lo : ∀ {r : List (Int × Nat)} {lo : Int}, Ivs lo r → ∀ x ∈ (segs r).flatten, lo ≤ x
  | [], _, _, x, hx => by simp [segs] at hx
  | (a, k) :: r, lo, ⟨h1, h2⟩, x, hx => by
    simp only [segs, List.map_cons, List.flatten_cons, List.mem_append] at hx
    rcases hx with hx | hx
    · have := (mem_seg.mp hx).1; omega
    · have := Ivs.lo h2 x hx; omega
theorem seg_asc : ∀ (a : Int) (k : Nat), Asc (seg a k)
  | _, 0 => .nil
  | a, k + 1 => List.pairwise_cons.mpr ⟨fun x hx => by have := (mem_seg.mp hx).1; omega, seg_asc (a + 1) k⟩
theorem Ivs.asc : ∀ {r : List (Int × Nat)} {lo : Int}, Ivs lo r → Asc (segs r).flatten
  | [], _, _ => .nil
  | (a, k) :: r, lo, ⟨h1, h2⟩ => by
    simp only [segs, List.map_cons, List.flatten_cons]
    refine List.pairwise_append.mpr ⟨seg_asc a (k + 1), Ivs.asc h2, fun x hx y hy => ?_⟩
    have h3 := (mem_seg.mp hx).2
    have h4 := Ivs.lo h2 y hy
    omega
/-- the intervals of a strictly ascending list -/
def ivs : List Int → List (Int × Nat)
  | [] => []
  | p :: s => match ivs s with
    | (a, k) :: r => if a = p + 1 then (p, k + 1) :: r else (p, 0) :: (a, k) :: r
    | [] => [(p, 0)]
theorem ivs_head : ∀ {s : List Int} {a : Int} {k : Nat} {r : List (Int × Nat)}, ivs s = (a, k) :: r → s.head? = some a
  | [], a, k, r, h => by simp [ivs] at h
  | p :: s, a, k, r, h => by
    simp only [ivs] at h
    split at h
    · split at h
      · cases h; rfl
      · cases h; rfl
    · cases h; rfl
theorem ivs_flat : ∀ (s : List Int), (segs (ivs s)).flatten = s
  | [] => rfl
  | p :: s => by
    have ih := ivs_flat s
    simp only [ivs]
    split
    · rename_i a k r e
      rw [e] at ih
      split
      · rename_i h
        subst h
        simp only [segs, List.map_cons, List.flatten_cons] at ih ⊢
        rw [← ih]
        simp [seg]
      · simp only [segs, List.map_cons, List.flatten_cons] at ih ⊢
        rw [ih]; simp [seg]
    · rename_i e
      rw [e] at ih
      simp only [segs, List.map_nil, List.flatten_nil] at ih
      rw [← ih]; simp [segs, seg]
theorem ivs_ok : ∀ {s : List Int} {lo : Int}, Asc s → (∀ x ∈ s, lo ≤ x) → Ivs lo (ivs s)
  | [], _, _, _ => trivial
  | p :: s, lo, h, hl => by
    obtain ⟨h1, h2⟩ := List.pairwise_cons.mp h
    have ih := ivs_ok (lo := p + 1) h2 fun x hx => by have := h1 x hx; omega
    have hp := hl p (by simp)
    simp only [ivs]
    split
    · rename_i a k r e
      rw [e] at ih
      obtain ⟨i1, i2⟩ := ih
      split
      · rename_i hh
        subst hh
        exact ⟨hp, i2.mono (by omega)⟩
      · exact ⟨hp, by omega, i2⟩
    · exact ⟨hp, trivial⟩
theorem Ivs.uniq : ∀ {r t : List (Int × Nat)} {lo lo' : Int}, Ivs lo r → Ivs lo' t → (∀ x, x ∈ (segs r).flatten ↔ x ∈ (segs t).flatten) → r = t
  | [], [], _, _, _, _, _ => rfl
  | [], (a, k) :: t, _, _, _, _, h => by
    have := (h a).mpr (by simp [segs, seg])
    simp [segs] at this
  | (a, k) :: r, [], _, _, _, _, h => by
    have := (h a).mp (by simp [segs, seg])
    simp [segs] at this
  | (a, k) :: r, (b, m) :: t, lo, lo', ⟨h1, h2⟩, ⟨g1, g2⟩, h => by
    have mem : ∀ x, x ∈ (segs ((a, k) :: r)).flatten ↔ (a ≤ x ∧ x < a + k + 1) ∨ x ∈ (segs r).flatten := fun x => by
      simp only [segs, List.map_cons, List.flatten_cons, List.mem_append, mem_seg]
      constructor
      · rintro (q | q)
        · left; omega
        · right; exact q
      · rintro (q | q)
        · left; omega
        · right; exact q
    have mem2 : ∀ x, x ∈ (segs ((b, m) :: t)).flatten ↔ (b ≤ x ∧ x < b + m + 1) ∨ x ∈ (segs t).flatten := fun x => by
      simp only [segs, List.map_cons, List.flatten_cons, List.mem_append, mem_seg]
      constructor
      · rintro (q | q)
        · left; omega
        · right; exact q
      · rintro (q | q)
        · left; omega
        · right; exact q
    have key : ∀ x, ((a ≤ x ∧ x < a + k + 1) ∨ x ∈ (segs r).flatten) ↔ ((b ≤ x ∧ x < b + m + 1) ∨ x ∈ (segs t).flatten) := fun x => by
      rw [← mem, ← mem2]; exact h x
    have lr := h2.lo
    have lt := g2.lo
    have eab : a = b := by
      have q1 := (key a).mp (.inl (by omega))
      have q2 := (key b).mpr (.inl (by omega))
      rcases q1 with q1 | q1
      · rcases q2 with q2 | q2
        · omega
        · have := lr b q2; omega
      · have := lt a q1
        rcases q2 with q2 | q2
        · omega
        · have := lr b q2; omega
    subst eab
    have ekm : k = m := by
      rcases Nat.lt_trichotomy k m with q | q | q
      · have z := (key (a + k + 1)).mpr (.inl (by omega))
        rcases z with z | z
        · omega
        · have := lr _ z; omega
      · exact q
      · have z := (key (a + m + 1)).mp (.inl (by omega))
        rcases z with z | z
        · omega
        · have := lt _ z; omega
    subst ekm
    rw [Ivs.uniq h2 g2 fun x => ?_]
    have kx := key x
    constructor
    · intro q
      have q1 := lr x q
      rcases kx.mp (.inr q) with z | z
      · omega
      · exact z
    · intro q
      have q1 := lt x q
      rcases kx.mpr (.inr q) with z | z
      · omega
      · exact z
end Og

end
section
set_option Elab.async false
set_option linter.all false
set_option maxRecDepth 100000
/-! A house more: intervals, choices. -/
namespace Og
abbrev IL := List (Int × Nat)
/-- the intervals of some plots -/
def iv (there : List Int) : IL := ivs (srtI there)
def fl (r : IL) : List Int := (segs r).flatten
theorem fl_cons (a : Int) (k : Nat) (r : IL) : fl ((a, k) :: r) = seg a (k + 1) ++ fl r := rfl
theorem mem_fl_cons {x a : Int} {k : Nat} {r : IL} : x ∈ fl ((a, k) :: r) ↔ (a ≤ x ∧ x ≤ a + k) ∨ x ∈ fl r := by
  rw [fl_cons, List.mem_append, mem_seg]
  constructor
  · rintro (q | q)
    · left; omega
    · right; exact q
  · rintro (q | q)
    · left; omega
    · right; exact q
theorem mem_iv {x : Int} {there : List Int} : x ∈ fl (iv there) ↔ x ∈ there := by
  unfold iv fl
  rw [ivs_flat, mem_srtI']
theorem low (there : List Int) : ∃ lo, ∀ x ∈ there, lo ≤ x := by
  induction there with
  | nil => exact ⟨0, fun x hx => by simp at hx⟩
  | cons a l ih =>
    obtain ⟨lo, h⟩ := ih
    refine ⟨min a lo, fun x hx => ?_⟩
    rcases List.mem_cons.mp hx with rfl | hx
    · omega
    · have := h x hx; omega
theorem iv_ok {there : List Int} {lo : Int} (nd : there.Nodup) (h : ∀ x ∈ there, lo ≤ x) : Ivs lo (iv there) := ivs_ok (srt_asc nd) fun x hx => h x (mem_srtI'.mp hx)
theorem iv_eq {there : List Int} {r : IL} {lo : Int} (nd : there.Nodup) (h : Ivs lo r) (m : ∀ x, x ∈ fl r ↔ x ∈ there) : iv there = r := by
  obtain ⟨lo', hl⟩ := low there
  exact Ivs.uniq (iv_ok nd hl) h fun x => by
    have := mem_iv (x := x) (there := there)
    unfold fl at this
    rw [this, ← m x]; rfl
/-- a plot more -/
def addIv (p : Int) : IL → IL
  | [] => [(p, 0)]
  | (a, k) :: r =>
    if p + 1 < a then (p, 0) :: (a, k) :: r
    else if p + 1 = a then (p, k + 1) :: r
    else if p = a + k + 1 then (match r with
      | (b, m) :: t => if p + 1 = b then (a, k + m + 2) :: t else (a, k + 1) :: (b, m) :: t
      | [] => [(a, k + 1)])
    else (a, k) :: addIv p r
theorem addIv_ok {p : Int} : ∀ {r : IL} {lo : Int}, Ivs lo r → lo ≤ p → p ∉ fl r → Ivs lo (addIv p r)
  | [], lo, _, h, _ => ⟨h, trivial⟩
  | (a, k) :: r, lo, ⟨h1, h2⟩, h, n => by
    rw [mem_fl_cons, not_or] at n
    unfold addIv
    split
    · exact ⟨h, by omega, h2⟩
    · split
      · exact ⟨h, h2.mono (by omega)⟩
      · split
        · split
          · rename_i b m t
            obtain ⟨g1, g2⟩ := h2
            split
            · exact ⟨h1, g2.mono (by omega)⟩
            · exact ⟨h1, by omega, g2⟩
          · exact ⟨h1, trivial⟩
        · exact ⟨h1, addIv_ok h2 (by omega) n.2⟩
theorem mem_addIv {p x : Int} : ∀ {r : IL} {lo : Int}, Ivs lo r → p ∉ fl r → (x ∈ fl (addIv p r) ↔ x = p ∨ x ∈ fl r)
  | [], lo, _, _ => by
    simp only [addIv, mem_fl_cons]
    simp [fl, segs]; omega
  | (a, k) :: r, lo, ⟨h1, h2⟩, n => by
    rw [mem_fl_cons, not_or] at n
    unfold addIv
    split
    · simp only [mem_fl_cons]
      constructor
      · rintro (q | q | q)
        · left; omega
        · right; left; exact q
        · right; right; exact q
      · rintro (q | q | q)
        · left; omega
        · right; left; exact q
        · right; right; exact q
    · split
      · simp only [mem_fl_cons]
        constructor
        · rintro (q | q)
          · by_cases e : x = p
            · left; exact e
            · right; left; omega
          · right; right; exact q
        · rintro (q | q | q)
          · left; omega
          · left; omega
          · right; exact q
      · split
        · split
          · rename_i b m t
            split
            · simp only [mem_fl_cons]
              constructor
              · rintro (q | q)
                · by_cases e : x = p
                  · left; exact e
                  · by_cases e2 : x ≤ a + k
                    · right; left; omega
                    · right; right; left; omega
                · right; right; right; exact q
              · rintro (q | q | q | q)
                · left; omega
                · left; omega
                · left; omega
                · right; exact q
            · simp only [mem_fl_cons]
              constructor
              · rintro (q | q)
                · by_cases e : x = p
                  · left; exact e
                  · right; left; omega
                · right; right; exact q
              · rintro (q | q | q)
                · left; omega
                · left; omega
                · right; exact q
          · simp only [mem_fl_cons]
            constructor
            · rintro (q | q)
              · by_cases e : x = p
                · left; exact e
                · right; left; omega
              · simp [fl, segs] at q
            · rintro (q | q | q)
              · left; omega
              · left; omega
              · right; exact q
        · simp only [mem_fl_cons, mem_addIv h2 n.2]
          constructor
          · rintro (q | q | q)
            · right; left; exact q
            · left; exact q
            · right; right; exact q
          · rintro (q | q | q)
            · right; left; exact q
            · left; exact q
            · right; right; exact q
theorem iv_snoc {there : List Int} {p : Int} (nd : (there ++ [p]).Nodup) : iv (there ++ [p]) = addIv p (iv there) := by
  rw [List.nodup_append] at nd
  obtain ⟨n1, _, n3⟩ := nd
  have np : p ∉ there := fun q => n3 p q p (by simp) rfl
  obtain ⟨lo, hl⟩ := low (p :: there)
  have h1 := iv_ok n1 (lo := lo) fun x hx => hl x (by simp [hx])
  have np2 : p ∉ fl (iv there) := fun q => np (mem_iv.mp q)
  refine iv_eq (List.nodup_append.mpr ⟨n1, by simp, n3⟩) (addIv_ok h1 (hl p (by simp)) np2) fun x => ?_
  rw [mem_addIv h1 np2, mem_iv]
  simp only [List.mem_append, List.mem_singleton]
  exact or_comm
/-! ### the choice -/
def chM (p : Int) : Int → IL → W3 × Int
  | i, [] => (.new, i)
  | i, (a, k) :: r =>
    if p + 1 < a then (.new, i)
    else if p + 1 = a then (.beside, 2 * i)
    else if p = a + k + 1 then (match r with
      | (b, _) :: _ => if p + 1 = b then (.between, i) else (.beside, 2 * i + 1)
      | [] => (.beside, 2 * i + 1))
    else chM p (i + 1) r
/-! by the program's look -/
def stM (r : IL) : List Int := r.map (·.1)
def leftM (p : Int) (r : IL) : Int := (((stM r).filter fun s => decide (s < p)).length : Nat)
def choiceP (left count : Int) (atL : Bool) : W3 × Int :=
  if count = 0 then (.new, left) else if count = 2 then (.between, left - 1) else (.beside, if atL = true then 2 * (left - 1) + 1 else 2 * left)
def cntF (r : IL) (p : Int) : Int := (if p - 1 ∈ fl r then 1 else 0) + (if p + 1 ∈ fl r then 1 else 0)
theorem left_big {p : Int} : ∀ {r : IL} {lo : Int}, Ivs lo r → p ≤ lo → leftM p r = 0
  | [], _, _, _ => rfl
  | (a, k) :: r, lo, ⟨h1, h2⟩, h => by
    have ih := left_big h2 (show p ≤ a + k + 2 by omega)
    unfold leftM stM at ih ⊢
    rw [List.map_cons, List.filter_cons, if_neg (by simp; omega)]
    exact ih
theorem left_cons {p a : Int} {k : Nat} {r : IL} (h : a < p) : leftM p ((a, k) :: r) = leftM p r + 1 := by
  unfold leftM stM
  rw [List.map_cons, List.filter_cons, if_pos (by simpa using h), List.length_cons]
  omega
theorem not_mem_lo {r : IL} {lo x : Int} (h : Ivs lo r) (hx : x < lo) : x ∉ fl r := fun q => by
  have := h.lo x q; omega
theorem choice_eq {p : Int} : ∀ {r : IL} {lo : Int} (i : Int), Ivs lo r → p ∉ fl r → chM p i r = choiceP (i + leftM p r) (cntF r p) (decide (p - 1 ∈ fl r))
  | [], _, i, _, _ => by
    simp [chM, choiceP, cntF, fl, segs, leftM, stM]
  | (a, k) :: r, lo, i, ⟨h1, h2⟩, n => by
    rw [mem_fl_cons, not_or] at n
    unfold chM
    split
    · rename_i c1
      have e1 : p - 1 ∉ fl ((a, k) :: r) := not_mem_lo (lo := a) ⟨Int.le_refl _, h2⟩ (by omega)
      have e2 : p + 1 ∉ fl ((a, k) :: r) := not_mem_lo (lo := a) ⟨Int.le_refl _, h2⟩ (by omega)
      have e3 : leftM p ((a, k) :: r) = 0 := left_big (lo := a) ⟨Int.le_refl _, h2⟩ (by omega)
      simp [choiceP, cntF, e1, e2, e3]
    · split
      · rename_i c1 c2
        have e1 : p - 1 ∉ fl ((a, k) :: r) := not_mem_lo (lo := a) ⟨Int.le_refl _, h2⟩ (by omega)
        have e2 : p + 1 ∈ fl ((a, k) :: r) := mem_fl_cons.mpr (.inl (by omega))
        have e3 : leftM p ((a, k) :: r) = 0 := left_big (lo := a) ⟨Int.le_refl _, h2⟩ (by omega)
        simp [choiceP, cntF, e1, e2, e3]
      · split
        · rename_i c1 c2 c3
          have e1 : p - 1 ∈ fl ((a, k) :: r) := mem_fl_cons.mpr (.inl (by omega))
          have e3 : leftM p ((a, k) :: r) = 1 := by
            rw [left_cons (by omega), left_big h2 (by omega)]; rfl
          split
          · rename_i b m t
            obtain ⟨g1, g2⟩ := h2
            split
            · rename_i c4
              have e2 : p + 1 ∈ fl ((a, k) :: (b, m) :: t) := mem_fl_cons.mpr (.inr (mem_fl_cons.mpr (.inl (by omega))))
              simp [choiceP, cntF, e1, e2, e3]
            · rename_i c4
              have e2 : p + 1 ∉ fl ((a, k) :: (b, m) :: t) := fun q => by
                rcases mem_fl_cons.mp q with q | q
                · omega
                · exact not_mem_lo (r := (b, m) :: t) (lo := b) ⟨Int.le_refl _, g2⟩ (by omega) q
              simp [choiceP, cntF, e1, e2, e3]
          · have e2 : p + 1 ∉ fl [(a, k)] := fun q => by
              rcases mem_fl_cons.mp q with q | q
              · omega
              · simp [fl, segs] at q
            simp [choiceP, cntF, e1, e2, e3]
        · rename_i c1 c2 c3
          have hp : a + k + 1 < p := by omega
          rw [choice_eq (i + 1) h2 n.2]
          have e1 : (p - 1 ∈ fl ((a, k) :: r)) ↔ (p - 1 ∈ fl r) := by
            rw [mem_fl_cons]
            exact ⟨fun q => by rcases q with q | q; omega; exact q, .inr⟩
          have e2 : (p + 1 ∈ fl ((a, k) :: r)) ↔ (p + 1 ∈ fl r) := by
            rw [mem_fl_cons]
            exact ⟨fun q => by rcases q with q | q; omega; exact q, .inr⟩
          have ec : cntF ((a, k) :: r) p = cntF r p := by
            unfold cntF
            by_cases q1 : p - 1 ∈ fl r <;> by_cases q2 : p + 1 ∈ fl r <;> simp [e1, e2, q1, q2]
          have ed : decide (p - 1 ∈ fl ((a, k) :: r)) = decide (p - 1 ∈ fl r) := decide_eq_decide.mpr e1
          have e4 : i + 1 + leftM p r = i + (leftM p r + 1) := by omega
          rw [left_cons (by omega), ec, ed, e4]
end Og

end
section
set_option Elab.async false
set_option linter.all false
set_option maxRecDepth 100000
/-! Choices, groups of times, gaps. -/
namespace Og
/-! ### by the law's look -/
def nearB (p : Int) : Int → IL → List (Int × Bool)
  | _, [] => []
  | i, (a, k) :: r => if p - 1 = a + k ∨ p + 1 = a then (i, decide (a + k < p)) :: nearB p (i + 1) r else nearB p (i + 1) r
def cntL (p : Int) (r : IL) : Int := ((r.filter fun q => decide (q.1 + q.2 < p)).length : Nat)
def pickF (near : List (Int × Bool)) (left : Int) : W3 × Int := match near with
  | [] => (.new, left)
  | [(x, b)] => (.beside, 2 * x + if b = true then 1 else 0)
  | (x, _) :: _ => (.between, x)
theorem near_big {p : Int} : ∀ {r : IL} {lo : Int} {i : Int}, Ivs lo r → p + 1 < lo → nearB p i r = []
  | [], _, _, _, _ => rfl
  | (a, k) :: r, lo, i, ⟨h1, h2⟩, h => by
    unfold nearB
    rw [if_neg (by omega)]
    exact near_big h2 (by omega)
theorem cntL_big {p : Int} : ∀ {r : IL} {lo : Int}, Ivs lo r → p ≤ lo → cntL p r = 0
  | [], _, _, _ => rfl
  | (a, k) :: r, lo, ⟨h1, h2⟩, h => by
    have ih := cntL_big h2 (show p ≤ a + k + 2 by omega)
    unfold cntL at ih ⊢
    rw [List.filter_cons, if_neg (by simp; omega)]
    exact ih
theorem cntL_cons {p a : Int} {k : Nat} {r : IL} (h : a + k < p) : cntL p ((a, k) :: r) = cntL p r + 1 := by
  unfold cntL
  rw [List.filter_cons, if_pos (by simpa using h), List.length_cons]
  omega
theorem pick_eq {p : Int} : ∀ {r : IL} {lo : Int} (i : Int), Ivs lo r → p ∉ fl r → chM p i r = pickF (nearB p i r) (i + cntL p r)
  | [], _, i, _, _ => by simp [chM, pickF, nearB, cntL]
  | (a, k) :: r, lo, i, ⟨h1, h2⟩, n => by
    rw [mem_fl_cons, not_or] at n
    unfold chM nearB
    split
    · rename_i c1
      rw [if_neg (by omega), near_big h2 (by omega), cntL_big (lo := a) (show Ivs a ((a, k) :: r) from ⟨Int.le_refl _, h2⟩) (by omega)]
      simp [pickF]
    · split
      · rename_i c1 c2
        rw [if_pos (by omega), near_big h2 (by omega)]
        have e : decide (a + (k : Int) < p) = false := by simp; omega
        simp [pickF, e]
      · split
        · rename_i c1 c2 c3
          rw [if_pos (by omega)]
          have e : decide (a + (k : Int) < p) = true := by simp; omega
          split
          · rename_i b m t
            obtain ⟨g1, g2⟩ := h2
            split
            · rename_i c4
              have e2 : nearB p (i + 1) ((b, m) :: t) = [(i + 1, decide (b + (m : Int) < p))] := by
                unfold nearB
                rw [if_pos (by omega), near_big g2 (by omega)]
              rw [e2]
              simp [pickF]
            · rename_i c4
              have e2 : nearB p (i + 1) ((b, m) :: t) = [] := by
                unfold nearB
                rw [if_neg (by omega), near_big g2 (by omega)]
              rw [e2, e]
              simp [pickF]
          · simp [pickF, nearB, e]
        · rename_i c1 c2 c3
          rw [if_neg (by omega), pick_eq (i + 1) h2 n.2, cntL_cons (by omega)]
          have e4 : i + 1 + cntL p r = i + (cntL p r + 1) := by omega
          rw [e4]
theorem near_at {p : Int} : ∀ {r : IL} {i x : Int} {b : Bool}, (x, b) ∈ nearB p i r → ∃ j : Nat, x = i + j ∧ ∃ a k, r[j]? = some (a, k) ∧ b = decide (a + (k : Nat) < p)
  | [], i, x, b, h => by simp [nearB] at h
  | (a, k) :: r, i, x, b, h => by
    unfold nearB at h
    split at h
    · rcases List.mem_cons.mp h with e | h
      · cases e; exact ⟨0, by simp, a, k, rfl, rfl⟩
      · obtain ⟨j, e, a', k', e2, e3⟩ := near_at h
        exact ⟨j + 1, by omega, a', k', by simpa using e2, e3⟩
    · obtain ⟨j, e, a', k', e2, e3⟩ := near_at h
      exact ⟨j + 1, by omega, a', k', by simpa using e2, e3⟩
/-! ### how many groups, how many choices -/
def stepM : W3 → Int
  | .new => 1
  | .beside => 0
  | .between => -1
def waysM (w : W3) (many : Int) : Int := match w with
  | .new => many + 1
  | .beside => 2 * many
  | .between => if many - 1 < 0 then 0 else many - 1
theorem add_len {p : Int} : ∀ (r : IL) (i : Int), ((addIv p r).length : Int) = r.length + stepM (chM p i r).1
  | [], i => by simp [addIv, chM, stepM]
  | (a, k) :: r, i => by
    unfold addIv chM
    split
    · simp [stepM]
    · split
      · simp [stepM]
      · split
        · split
          · split
            · simp [stepM]; omega
            · simp [stepM]
          · simp [stepM]
        · have := add_len (p := p) r (i + 1)
          simp only [List.length_cons]
          omega
def chB (i n : Int) (c : W3 × Int) : Prop := match c.1 with
  | .new => i ≤ c.2 ∧ c.2 < i + n + 1
  | .beside => 2 * i ≤ c.2 ∧ c.2 < 2 * (i + n)
  | .between => i ≤ c.2 ∧ c.2 < i + n - 1
theorem ch_bound {p : Int} : ∀ (r : IL) (i : Int), chB i r.length (chM p i r)
  | [], i => by simp [chM, chB]; omega
  | (a, k) :: r, i => by
    unfold chM
    split
    · simp only [chB, List.length_cons]; omega
    · split
      · simp only [chB, List.length_cons]; omega
      · split
        · split
          · split
            · simp only [chB, List.length_cons]; omega
            · simp only [chB, List.length_cons]; omega
          · simp only [chB, List.length_cons, List.length_nil]; omega
        · have := ch_bound (p := p) r (i + 1)
          generalize chM p (i + 1) r = c at this
          obtain ⟨w, x⟩ := c
          cases w <;> simp only [chB, List.length_cons] at this ⊢ <;> omega
theorem ch_ways {p : Int} (r : IL) : 0 ≤ (chM p 0 r).2 ∧ (chM p 0 r).2 < waysM (chM p 0 r).1 r.length := by
  have h := ch_bound (p := p) r 0
  generalize chM p 0 r = c at h
  obtain ⟨w, x⟩ := c
  cases w <;> simp only [waysM, chB] at h ⊢
  · omega
  · omega
  · split <;> omega
/-! ### groups of times -/
def grownM (G : List (List Int)) (t : Int) (c : W3 × Int) : List (List Int) := match c.1 with
  | .new => G.take c.2.toNat ++ [[t]] ++ G.drop c.2.toNat
  | .between => G.take c.2.toNat ++ [G.getD c.2.toNat [] ++ [t] ++ G.getD (c.2.toNat + 1) []] ++ G.drop (c.2.toNat + 2)
  | .beside => G.take (c.2 / 2).toNat ++ [if c.2 % 2 = 0 then [t] ++ G.getD (c.2 / 2).toNat [] else G.getD (c.2 / 2).toNat [] ++ [t]] ++ G.drop ((c.2 / 2).toNat + 1)
theorem mem3 {g g2 : List Int} {G : List (List Int)} {t : Int} (x : Int) : x ∈ ((g ++ [t] ++ g2) :: G).flatten ↔ x = t ∨ x ∈ (g :: g2 :: G).flatten := by
  simp only [List.flatten_cons, List.mem_append, List.mem_singleton]
  constructor
  · rintro (((h | h) | h) | h) <;> simp [h]
  · rintro (h | h | h | h) <;> simp [h]
theorem mem2 {g : List Int} {G : List (List Int)} {t : Int} (x : Int) : x ∈ ((g ++ [t]) :: G).flatten ↔ x = t ∨ x ∈ (g :: G).flatten := by
  simp only [List.flatten_cons, List.mem_append, List.mem_singleton]
  constructor
  · rintro ((h | h) | h) <;> simp [h]
  · rintro (h | h | h) <;> simp [h]
theorem memT {g : List Int} {G G' : List (List Int)} {t : Int} (h : ∀ x, x ∈ G'.flatten ↔ x = t ∨ x ∈ G.flatten) (x : Int) : x ∈ (g :: G').flatten ↔ x = t ∨ x ∈ (g :: G).flatten := by
  simp only [List.flatten_cons, List.mem_append, h]
  constructor
  · rintro (h | h | h) <;> simp [h]
  · rintro (h | h | h) <;> simp [h]
theorem grown_at {pos : Int → Int} {t p : Int} (ht : pos t = p) : ∀ (r : IL) (G pre : List (List Int)), segs r = G.map (List.map pos) →
    ∃ G', grownM (pre ++ G) t (chM p pre.length r) = pre ++ G' ∧ segs (addIv p r) = G'.map (List.map pos) ∧ ∀ x, x ∈ G'.flatten ↔ x = t ∨ x ∈ G.flatten
  | [], G, pre, h => by
    have : G = [] := by
      cases G with
      | nil => rfl
      | cons g G => simp [segs] at h
    subst this
    refine ⟨[[t]], ?_, by simp [addIv, segs, seg, ht], by simp⟩
    simp [chM, grownM]
  | (a, k) :: r, G, pre, h => by
    cases G with
    | nil => simp [segs] at h
    | cons g G =>
      simp only [segs, List.map_cons, List.cons.injEq] at h
      obtain ⟨hg, hG⟩ := h
      have hG : segs r = G.map (List.map pos) := hG
      unfold chM addIv
      split
      · refine ⟨[t] :: g :: G, ?_, by simp [segs, seg, ht, ← hg, ← hG], by simp⟩
        simp [grownM]
      · split
        · rename_i c1 c2
          refine ⟨(t :: g) :: G, ?_, ?_, by simp [or_assoc]⟩
          · have e1 : (2 * (pre.length : Int)) / 2 = pre.length := by omega
            have e2 : (2 * (pre.length : Int)) % 2 = 0 := by omega
            simp [grownM, e1, e2]
          · have e3 : seg p (k + 1 + 1) = p :: seg a (k + 1) := by rw [← c2]; rfl
            simp [segs, ht, ← hG, e3, ← hg]
        · split
          · rename_i c1 c2 c3
            cases r with
            | cons q r2 =>
              obtain ⟨b, m⟩ := q
              cases G with
              | nil => simp [segs] at hG
              | cons g2 G =>
                simp only [segs, List.map_cons, List.cons.injEq] at hG
                obtain ⟨hg2, hG⟩ := hG
                dsimp only
                split
                · rename_i c4
                  refine ⟨(g ++ [t] ++ g2) :: G, ?_, ?_, mem3⟩
                  · simp [grownM]
                  · have e3 : seg a (k + m + 2 + 1) = seg a (k + 1) ++ (p :: seg b (m + 1)) := by
                      have e4 : k + m + 2 + 1 = (k + 1) + ((m + 1) + 1) := by omega
                      rw [e4, seg_app]
                      have e5 : a + ((k + 1 : Nat) : Int) = p := by omega
                      rw [e5, ← c4]
                      rfl
                    simp [segs, ht, ← hG, e3, ← hg, ← hg2]
                · rename_i c4
                  refine ⟨(g ++ [t]) :: g2 :: G, ?_, ?_, mem2⟩
                  · have e1 : (2 * (pre.length : Int) + 1) / 2 = pre.length := by omega
                    have e2 : ¬ (2 * (pre.length : Int) + 1) % 2 = 0 := by omega
                    simp [grownM, e1, e2]
                  · have e3 : seg a (k + 1 + 1) = seg a (k + 1) ++ [p] := by
                      rw [seg_snoc]; congr 2; omega
                    simp [segs, ht, ← hG, e3, ← hg, ← hg2]
            | nil =>
              refine ⟨(g ++ [t]) :: G, ?_, ?_, mem2⟩
              · have e1 : (2 * (pre.length : Int) + 1) / 2 = pre.length := by omega
                have e2 : ¬ (2 * (pre.length : Int) + 1) % 2 = 0 := by omega
                simp [grownM, e1, e2]
              · have e3 : seg a (k + 1 + 1) = seg a (k + 1) ++ [p] := by
                  rw [seg_snoc]; congr 2; omega
                have : G = [] := by
                  cases G with
                  | nil => rfl
                  | cons g G => simp [segs] at hG
                subst this
                simp [segs, ht, e3, ← hg]
          · rename_i c1 c2 c3
            obtain ⟨G', h1, h2, h3⟩ := grown_at ht r G (pre ++ [g]) hG
            refine ⟨g :: G', ?_, ?_, memT h3⟩
            · have e1 : pre ++ g :: G = pre ++ [g] ++ G := by simp
              have e2 : (pre.length : Int) + 1 = ((pre ++ [g]).length : Nat) := by simp
              rw [e1, e2, h1]; simp
            · have e5 : segs ((a, k) :: addIv p r) = seg a (k + 1) :: segs (addIv p r) := rfl
              rw [e5, h2, hg]; rfl
end Og

end
section
set_option Elab.async false
set_option linter.all false
set_option maxRecDepth 100000
/-! Gaps. -/
namespace Og
def holS (s : List Int × Int) (x : Int × Nat) : List Int × Int := (s.1 ++ [x.1 - s.2], x.1 + x.2 + 1)
def hol (r : IL) : List Int × Int := r.foldl holS ([], 0)
theorem hol_snoc (r : IL) (x : Int × Nat) : hol (r ++ [x]) = ((hol r).1 ++ [x.1 - (hol r).2], x.1 + x.2 + 1) := by
  unfold hol; rw [List.foldl_append]; rfl
def gapsL (n : Int) (r : IL) : List Int := (hol r).1 ++ [n - (hol r).2]
theorem hol_len : ∀ (r : IL), (hol r).1.length = r.length := by
  intro r
  induction r using List.reverseRecOn' with
  | nil => rfl
  | snoc r x ih => rw [hol_snoc]; simp [ih]
where
  List.reverseRecOn' {α : Type} {motive : List α → Prop} (nil : motive []) (snoc : ∀ l x, motive l → motive (l ++ [x])) (l : List α) : motive l := by
    have : ∀ m : List α, motive m.reverse := fun m => by
      induction m with
      | nil => exact nil
      | cons x m ih => rw [List.reverse_cons]; exact snoc _ _ ih
    have := this l.reverse
    rwa [List.reverse_reverse] at this
def lastE : Int → IL → Int
  | b, [] => b
  | _, (a, k) :: r => lastE (a + k + 1) r
theorem hol_last : ∀ (r : IL) (s : List Int × Int), (r.foldl holS s).2 = lastE s.2 r
  | [], s => rfl
  | (a, k) :: r, s => by rw [List.foldl_cons, hol_last r]; rfl
theorem hol_end (r : IL) : (hol r).2 = lastE 0 r := hol_last r ([], 0)
theorem lastE_ge : ∀ {r : IL} {b : Int}, Ivs (b + 1) r → b ≤ lastE b r
  | [], b, _ => Int.le_refl _
  | (a, k) :: r, b, ⟨h1, h2⟩ => by
    have := lastE_ge (b := a + k + 1) (r := r) (h2.mono (by omega))
    simp only [lastE]; omega
theorem ivs_split : ∀ {ls gs : IL} {lo b : Int}, Ivs lo (ls ++ gs) → b ≤ lo → (∀ x ∈ fl ls, x < lastE b ls) ∧ (ls ≠ [] → Ivs (lastE b ls + 1) gs) ∧ Ivs (lastE b ls) gs
  | [], gs, lo, b, h, hb => ⟨fun x hx => by simp [fl, segs] at hx, fun q => absurd rfl q, h.mono hb⟩
  | (a, k) :: ls, gs, lo, b, ⟨h1, h2⟩, hb => by
    obtain ⟨i1, i2, i3⟩ := ivs_split (b := a + k + 1) h2 (by omega)
    have hg : Ivs (lastE (a + k + 1) ls + 1) gs := by
      cases ls with
      | nil => exact Ivs.mono (by simp only [lastE]; omega) h2
      | cons q ls => exact i2 (by simp)
    refine ⟨fun x hx => ?_, fun _ => hg, i3⟩
    rcases mem_fl_cons.mp hx with q | q
    · have : a + k + 1 ≤ lastE (a + k + 1) ls := by
        have : Ivs (a + k + 1 + 1) ls := by
          have key : ∀ {l m : IL} {lo : Int}, Ivs lo (l ++ m) → Ivs lo l := by
            intro l
            induction l with
            | nil => intro m lo _; trivial
            | cons q l ih => intro m lo h; exact ⟨h.1, ih h.2⟩
          exact (key h2).mono (by omega)
        exact lastE_ge this
      simp only [lastE]; omega
    · exact i1 x q
theorem in_last {p : Int} : ∀ {ls : IL} {b : Int}, (∀ x ∈ ls, x.1 < p) → b ≤ p → p < lastE b ls → p ∈ fl ls
  | [], b, _, h1, h2 => by simp only [lastE] at h2; omega
  | (a, k) :: r, b, h, h1, h2 => by
    have ha := h (a, k) (by simp)
    simp only at ha
    simp only [lastE] at h2
    rw [mem_fl_cons]
    by_cases q : p ≤ a + k
    · left; omega
    · right
      exact in_last (fun x hx => h x (by simp [hx])) (by omega) h2
/-- what stands behind the plots below p -/
def GP (r : IL) (p : Int) (found : List Int) (gap : Int) : Prop := ∃ ls gs, r = ls ++ gs ∧ (∀ x ∈ ls, x.1 < p) ∧ (∀ x ∈ gs, p ≤ x.1) ∧ found = (hol ls).1 ∧ gap = if p ≤ lastE 0 ls then 0 else p - lastE 0 ls
theorem gp_start {r : IL} (h : Ivs 0 r) : GP r 0 [] 0 := by
  refine ⟨[], r, rfl, by simp, fun x hx => ?_, rfl, by simp [lastE]⟩
  have : ∀ {r : IL} {lo : Int}, Ivs lo r → ∀ x ∈ r, lo ≤ x.1 := by
    intro r
    induction r with
    | nil => intro lo _ x hx; simp at hx
    | cons q r ih =>
      intro lo h x hx
      rcases List.mem_cons.mp hx with e | hx
      · rw [e]; exact h.1
      · have := ih h.2 x hx; have := h.1; omega
  exact this h x hx
theorem gp_step {r : IL} {p gap : Int} {found : List Int} (h : Ivs 0 r) (h0 : 0 ≤ p) (g : GP r p found gap) :
    (p ∉ fl r → GP r (p + 1) found (gap + 1)) ∧ (p ∈ fl r → p - 1 ∉ fl r → GP r (p + 1) (found ++ [gap]) 0) ∧ (p ∈ fl r → p - 1 ∈ fl r → GP r (p + 1) found gap) := by
  obtain ⟨ls, gs, rfl, hl, hg, rfl, rfl⟩ := g
  obtain ⟨i1, i2, i3⟩ := ivs_split (b := 0) h (Int.le_refl _)
  have happ : ∀ x, x ∈ fl (ls ++ gs) ↔ x ∈ fl ls ∨ x ∈ fl gs := fun x => by simp [fl, segs]
  have inls : p < lastE 0 ls → p ∈ fl ls := fun q => in_last hl h0 q
  cases gs with
  | nil =>
    refine ⟨fun n => ?_, fun m n => ?_, fun m n => ?_⟩
    · have q : ¬ p < lastE 0 ls := fun q => n ((happ p).mpr (.inl (inls q)))
      refine ⟨ls, [], rfl, fun x hx => by have := hl x hx; omega, by simp, rfl, ?_⟩
      split <;> split <;> omega
    · rcases (happ p).mp m with m | m
      · have q1 := i1 p m
        have : p - 1 ∈ fl ls := by
          by_cases z : ls = []
          · subst z; simp [fl, segs] at m
          · refine (in_pred hl m)
        exact absurd ((happ _).mpr (.inl this)) n
      · simp [fl, segs] at m
    · rcases (happ p).mp m with m | m
      · have q1 := i1 p m
        refine ⟨ls, [], rfl, fun x hx => by have := hl x hx; omega, by simp, rfl, ?_⟩
        rw [if_pos (by omega), if_pos (by omega)]
      · simp [fl, segs] at m
  | cons y gs =>
    obtain ⟨a, k⟩ := y
    have ha := hg (a, k) (by simp)
    simp only at ha
    have hgs : ∀ x ∈ gs, a + 1 < x.1 := fun x hx => by
      have key : ∀ {r : IL} {lo : Int}, Ivs lo r → ∀ x ∈ r, lo ≤ x.1 := by
        intro r
        induction r with
        | nil => intro lo _ x hx; simp at hx
        | cons q r ih =>
          intro lo h x hx
          rcases List.mem_cons.mp hx with e | hx
          · rw [e]; exact h.1
          · have := ih h.2 x hx; have := h.1; omega
      have := key i3.2 x hx
      omega
    by_cases e : a = p
    · subst e
      have pin : a ∈ fl (ls ++ (a, k) :: gs) := (happ a).mpr (.inr (mem_fl_cons.mpr (.inl (by omega))))
      have hle := i3.1
      have npred : a - 1 ∉ fl (ls ++ (a, k) :: gs) := fun q => by
        rcases (happ _).mp q with q | q
        · have q1 := i1 _ q
          have z : ls ≠ [] := fun z => by subst z; simp [fl, segs] at q
          have := (i2 z).1
          omega
        · have := Ivs.lo (show Ivs a ((a, k) :: gs) from ⟨Int.le_refl _, i3.2⟩) _ q
          omega
      refine ⟨fun n => absurd pin n, fun _ _ => ?_, fun _ n => absurd n npred⟩
      refine ⟨ls ++ [(a, k)], gs, by simp, fun x hx => ?_, fun x hx => by have := hgs x hx; omega, ?_, ?_⟩
      · rcases List.mem_append.mp hx with hx | hx
        · have := hl x hx; omega
        · have : x = (a, k) := by simpa using hx
          subst this; simp only; omega
      · rw [hol_snoc, hol_end]
        simp only
        congr 2
        split <;> omega
      · rw [← hol_end, hol_snoc]
        simp only
        rw [if_pos (by omega)]
    · have np : p ∉ fl ((a, k) :: gs) := not_mem_lo (lo := a) ⟨Int.le_refl _, i3.2⟩ (by omega)
      have hg' : ∀ x ∈ (a, k) :: gs, p + 1 ≤ x.1 := fun x hx => by
        rcases List.mem_cons.mp hx with z | hx
        · subst z; simp only; omega
        · have := hgs x hx; omega
      refine ⟨fun n => ?_, fun m n => ?_, fun m n => ?_⟩
      · have q : ¬ p < lastE 0 ls := fun q => n ((happ p).mpr (.inl (inls q)))
        refine ⟨ls, _, rfl, fun x hx => by have := hl x hx; omega, hg', rfl, ?_⟩
        split <;> split <;> omega
      · rcases (happ p).mp m with m | m
        · exact absurd ((happ _).mpr (.inl (in_pred hl m))) n
        · exact absurd m np
      · rcases (happ p).mp m with m | m
        · have q1 := i1 p m
          refine ⟨ls, _, rfl, fun x hx => by have := hl x hx; omega, hg', rfl, ?_⟩
          rw [if_pos (by omega), if_pos (by omega)]
        · exact absurd m np
where
  in_pred {p : Int} : ∀ {ls : IL}, (∀ x ∈ ls, x.1 < p) → p ∈ fl ls → p - 1 ∈ fl ls
    | [], _, m => by simp [fl, segs] at m
    | (a, k) :: r, h, m => by
      have ha := h (a, k) (by simp)
      simp only at ha
      rw [mem_fl_cons] at m ⊢
      rcases m with m | m
      · left; omega
      · right; exact in_pred (fun x hx => h x (by simp [hx])) m
theorem gp_end {r : IL} {n gap : Int} {found : List Int} (h : Ivs 0 r) (hn : ∀ x ∈ fl r, x < n) (h0 : 0 ≤ n) (g : GP r n found gap) : found ++ [gap] = gapsL n r := by
  obtain ⟨ls, gs, rfl, hl, hg, rfl, rfl⟩ := g
  have : gs = [] := by
    cases gs with
    | nil => rfl
    | cons y gs =>
      obtain ⟨a, k⟩ := y
      have h1 := hg (a, k) (by simp)
      have h2 := hn a (by simp only [fl, segs, List.map_append, List.flatten_append, List.mem_append]; right; simp [seg])
      simp only at h1; omega
  subst this
  simp only [List.append_nil] at hn h ⊢
  unfold gapsL
  rw [hol_end]
  congr 2
  have : lastE 0 ls ≤ n := by
    have key : ∀ {r : IL} {b : Int}, (∀ x ∈ fl r, x < n) → b ≤ n → lastE b r ≤ n := by
      intro r
      induction r with
      | nil => intro b _ hb; exact hb
      | cons q r ih =>
        obtain ⟨a, k⟩ := q
        intro b hx hb
        have := hx (a + k) (mem_fl_cons.mpr (.inl (by omega)))
        exact ih (fun x m => hx x (mem_fl_cons.mpr (.inr m))) (by omega)
    exact key hn h0
  split <;> omega
end Og

end
section
set_option Elab.async false
set_option linter.all false
set_option maxRecDepth 100000
/-! More laws of the parts: encodings, loops with draws, items. -/
namespace Og
open PySem
/-! ### encodings -/
class Enc (α : Type) where
  enc : α → D
  dep : Nat
  lay : ∀ a, PyData.canLay0 (enc a) = true
  dp : ∀ a, PyData.depth (enc a) ≤ dep
  inj : ∀ a b, PyData.eqv (enc a) (enc b) = true → a = b
open Enc (enc)
@[reducible] instance : Enc Int where
  enc := PyData.int
  dep := 0
  lay := fun a => by simp [PyData.canLay0]
  dp := fun a => by simp [PyData.depth]
  inj := fun a b h => by simpa [PyData.eqv] using h
@[reducible] instance : Enc Bool where
  enc := PyData.bool
  dep := 0
  lay := fun a => by simp [PyData.canLay0]
  dp := fun a => by simp [PyData.depth]
  inj := fun a b h => by simpa [PyData.eqv] using h
@[reducible] instance : Enc W3 where
  enc := fun w => PyData.str (wS w)
  dep := 0
  lay := fun a => by cases a <;> decide +kernel
  dp := fun a => by simp [PyData.depth]
  inj := fun a b h => by rw [eqv_w] at h; simpa using h
theorem lay_map {α : Type} [Enc α] : ∀ l : List α, PyData.canLayAll0 (l.map enc) = true ∧ PyData.depthAll (l.map enc) ≤ Enc.dep α
  | [] => ⟨by simp [PyData.canLayAll0], by simp [PyData.depthAll]⟩
  | a :: l => by
    obtain ⟨i1, i2⟩ := lay_map l
    refine ⟨by simp [PyData.canLayAll0, Enc.lay, i1], ?_⟩
    have := Enc.dp a
    simp only [List.map_cons, PyData.depthAll]
    omega
theorem inj_map {α : Type} [Enc α] : ∀ l m : List α, PyData.eqvAll (l.map enc) (m.map enc) = true → l = m
  | [], [], _ => rfl
  | [], b :: m, h => by simp [PyData.eqvAll] at h
  | a :: l, [], h => by simp [PyData.eqvAll] at h
  | a :: l, b :: m, h => by
    simp only [List.map_cons, PyData.eqvAll, Bool.and_eq_true] at h
    rw [Enc.inj a b h.1, inj_map l m h.2]
@[reducible] instance {α : Type} [Enc α] : Enc (List α) where
  enc := fun l => .list (l.map enc)
  dep := Enc.dep α + 1
  lay := fun l => by simp [PyData.canLay0, (lay_map l).1]
  dp := fun l => by have := (lay_map l).2; simp only [PyData.depth]; omega
  inj := fun l m h => inj_map l m (by simpa [PyData.eqv] using h)
/-- a tuple of alike things -/
structure Tu (α : Type) where
  l : List α
  deriving DecidableEq
@[reducible] instance {α : Type} [Enc α] : Enc (Tu α) where
  enc := fun l => .tuple (l.l.map enc)
  dep := Enc.dep α + 1
  lay := fun l => by simp [PyData.canLay0, (lay_map l.l).1]
  dp := fun l => by have := (lay_map l.l).2; simp only [PyData.depth]; omega
  inj := fun l m h => by
    have := inj_map l.l m.l (by simpa [PyData.eqv] using h)
    cases l; cases m; simp only at this; rw [this]
@[reducible] instance {α β : Type} [Enc α] [Enc β] : Enc (α × β) where
  enc := fun p => .tuple [enc p.1, enc p.2]
  dep := max (Enc.dep α) (Enc.dep β) + 1
  lay := fun p => by simp [PyData.canLay0, PyData.canLayAll0, Enc.lay]
  dp := fun p => by
    have h1 := Enc.dp p.1
    have h2 := Enc.dp p.2
    simp only [PyData.depth, PyData.depthAll]
    omega
  inj := fun p q h => by
    simp only [PyData.eqv, PyData.eqvAll, Bool.and_eq_true] at h
    exact Prod.ext (Enc.inj _ _ h.1) (Enc.inj _ _ h.2.1)
theorem sh_enc {α : Type} [Enc α] (a : α) (hd : Enc.dep α ≤ 64) : SeqAt.shaped (enc a) = true := by
  have := Enc.dp a
  simp only [SeqAt.shaped, Enc.lay, Bool.true_and, decide_eq_true_eq]
  omega
theorem eqv_enc {α : Type} [Enc α] [DecidableEq α] (a b : α) : PyData.eqv (enc a) (enc b) = decide (a = b) := by
  by_cases e : a = b
  · subst e; rw [SeqAt.eqv_refl _ (Enc.lay a)]; simp
  · simp only [e, decide_false]
    cases q : PyData.eqv (enc a) (enc b) with
    | false => rfl
    | true => exact absurd (Enc.inj a b q) e
theorem shL_enc {α : Type} [Enc α] (hd : Enc.dep α ≤ 64) (l : List α) : shapedL (l.map enc) = true := by
  unfold shapedL
  rw [List.all_map, List.all_eq_true]
  intro x _
  exact sh_enc x hd
theorem inD_enc {α : Type} [Enc α] [DecidableEq α] (a : α) : ∀ l : List α, inD (enc a) (l.map enc) = decide (a ∈ l)
  | [] => by simp [inD]
  | b :: l => by
    have ih := inD_enc a l
    unfold inD at ih ⊢
    rw [List.map_cons, List.any_cons, ih, eqv_enc]
    by_cases e : a = b
    · simp [e]
    · have : ¬ b = a := fun q => e q.symm
      simp [e, this]
section
variable {h : Hist}
theorem cEq_enc {α : Type} [Enc α] [DecidableEq α] (a b : α) (hd : Enc.dep α ≤ 64) : cEq (enc a) (enc b) h = .ok (.bool (decide (a = b))) .pl h := by
  simp only [cEq, sh_enc _ hd, Bool.and_self, mkB_eq, eqv_enc]
theorem cNe_enc {α : Type} [Enc α] [DecidableEq α] (a b : α) (hd : Enc.dep α ≤ 64) : cNe (enc a) (enc b) h = .ok (.bool (!decide (a = b))) .pl h := by
  simp only [cNe, sh_enc _ hd, Bool.and_self, mkB_eq, eqv_enc]
theorem cIn_enc {α : Type} [Enc α] [DecidableEq α] (b neg : Bool) (a : α) (l : List α) (hd : Enc.dep α ≤ 64) : cIn neg (enc a) (sq b (l.map enc)) h = .ok (.bool (neg != decide (a ∈ l))) .pl h := by
  cases b <;> simp only [sq, cIn, sh_enc _ hd, shL_enc hd, Bool.and_self, mkB_eq, inD_enc]
theorem eqv_nil (xs : List D) : PyData.eqv (.list xs) (.list []) = xs.isEmpty := by
  cases xs <;> simp [PyData.eqv, PyData.eqvAll]
theorem sh_nil : SeqAt.shaped (.list []) = true := by decide
theorem cNe_nil {xs : List D} (hs : SeqAt.shaped (.list xs) = true) : cNe (.list xs) (.list []) h = .ok (.bool (!xs.isEmpty)) .pl h := by
  simp only [cNe, hs, sh_nil, Bool.and_self, mkB_eq, eqv_nil]
theorem cEq_nil {xs : List D} (hs : SeqAt.shaped (.list xs) = true) : cEq (.list xs) (.list []) h = .ok (.bool xs.isEmpty) .pl h := by
  simp only [cEq, hs, sh_nil, Bool.and_self, mkB_eq, eqv_nil]
/-! ### items -/
theorem nth_eq : ∀ (xs : List D) (k : Nat), nth xs k = xs[k]?
  | [], k => by simp [nth]
  | x :: r, 0 => by simp [nth]
  | x :: r, k + 1 => by simp [nth, nth_eq r k]
theorem subL_last (xs : List D) (x : D) : subL (xs ++ [x]) (-1) h = .ok x .pl h := by
  have e : ixI (xs ++ [x]).length (-1) = some xs.length := by
    show (match Nat.blt 0 (xs ++ [x]).length with
      | true => some ((xs ++ [x]).length - 1 - 0)
      | false => none) = _
    have : Nat.blt 0 (xs ++ [x]).length = true := Nat.blt_eq.mpr (by simp)
    rw [this]; simp
  unfold subL
  rw [e]
  simp only [nth_eq]
  simp
theorem ixI_nat {n k : Nat} (hk : k < n) : ixI n (k : Int) = some k := by
  show (match Nat.blt k n with
      | true => some k
      | false => none) = _
  rw [Nat.blt_eq.mpr hk]
theorem subL_nat {xs : List D} {k : Nat} {x : D} (e : xs[k]? = some x) : subL xs (k : Int) h = .ok x .pl h := by
  have hk : k < xs.length := (List.getElem?_eq_some_iff.mp e).1
  unfold subL
  rw [ixI_nat hk]
  simp only [nth_eq, e]
theorem subL_zero (x : D) (r : List D) : subL (x :: r) 0 h = .ok x .pl h := subL_nat (k := 0) rfl
theorem lastD_snoc : ∀ (xs : List D) (x : D), lastD (xs ++ [x]) = some (xs, x)
  | [], x => rfl
  | y :: r, x => by
    have := lastD_snoc r x
    cases r with
    | nil => rfl
    | cons z r =>
      simp only [List.cons_append] at this ⊢
      simp only [lastD] at this ⊢
      rw [this]
theorem seqOf_sq (b : Bool) (l : List D) : seqOf (sq b l) = some l := by cases b <;> rfl
/-! ### loops -/
variable {σ : Sl}
theorem for_inv {α : Type} {enc : α → D} {tg : Tg} {b : Sl → Hist → Out} (P : List α → Sl → Hist → Prop) {l : List α} (h0 : P [] σ h)
    (step : ∀ done y rest σ h, l = done ++ y :: rest → P done σ h → ∃ σ1 σ' h', asgT tg (enc y) σ = some σ1 ∧ (b σ1 h = .nx σ' h' ∨ b σ1 h = .ct σ' h') ∧ P (done ++ [y]) σ' h') : ∃ σ' h', forL tg b (l.map enc) σ h = .nx σ' h' ∧ P l σ' h' := by
  have key : ∀ (rest done : List α) (σ : Sl) (h : Hist), l = done ++ rest → P done σ h → ∃ σ' h', forL tg b (rest.map enc) σ h = .nx σ' h' ∧ P l σ' h' := by
    intro rest
    induction rest with
    | nil => intro done σ h e p; exact ⟨σ, h, rfl, by rw [e]; simpa using p⟩
    | cons y rest ih =>
      intro done σ h e p
      obtain ⟨σ1, σ', h', h1, h2, h3⟩ := step done y rest σ h e p
      obtain ⟨σ2, h4, h5, h6⟩ := ih (done ++ [y]) σ' h' (by rw [e]; simp) h3
      refine ⟨σ2, h4, ?_, h6⟩
      simp only [List.map_cons, forL, h1]
      rcases h2 with h2 | h2 <;> rw [h2] <;> exact h5
  exact key l [] σ h rfl h0
/-- a loop that may end early -/
theorem for_inv2 {α : Type} {enc : α → D} {tg : Tg} {b : Sl → Hist → Out} (P : List α → Sl → Hist → Prop) (Q : List α → α → D → Fl → Hist → Prop) {l : List α} (h0 : P [] σ h)
    (step : ∀ done y rest σ h, l = done ++ y :: rest → P done σ h → ∃ σ1, asgT tg (enc y) σ = some σ1 ∧ ((∃ σ' h', (b σ1 h = .nx σ' h' ∨ b σ1 h = .ct σ' h') ∧ P (done ++ [y]) σ' h') ∨ (∃ x f h', b σ1 h = .ret x f h' ∧ Q done y x f h'))) :
    (∃ σ' h', forL tg b (l.map enc) σ h = .nx σ' h' ∧ P l σ' h') ∨ (∃ done y rest x f h', l = done ++ y :: rest ∧ forL tg b (l.map enc) σ h = .ret x f h' ∧ Q done y x f h') := by
  have key : ∀ (rest done : List α) (σ : Sl) (h : Hist), l = done ++ rest → P done σ h → (∃ σ' h', forL tg b (rest.map enc) σ h = .nx σ' h' ∧ P l σ' h') ∨ (∃ done y rest' x f h', l = done ++ y :: rest' ∧ forL tg b (rest.map enc) σ h = .ret x f h' ∧ Q done y x f h') := by
    intro rest
    induction rest with
    | nil => intro done σ h e p; exact .inl ⟨σ, h, rfl, by rw [e]; simpa using p⟩
    | cons y rest ih =>
      intro done σ h e p
      obtain ⟨σ1, h1, h2⟩ := step done y rest σ h e p
      rcases h2 with ⟨σ', h', h2, h3⟩ | ⟨x, f, h', h2, h3⟩
      · rcases ih (done ++ [y]) σ' h' (by rw [e]; simp) h3 with ⟨σ2, h4, h5, h6⟩ | ⟨d2, y2, r2, x, f, h4, e2, h5, h6⟩
        · refine .inl ⟨σ2, h4, ?_, h6⟩
          simp only [List.map_cons, forL, h1]
          rcases h2 with h2 | h2 <;> rw [h2] <;> exact h5
        · refine .inr ⟨d2, y2, r2, x, f, h4, e2, ?_, h6⟩
          simp only [List.map_cons, forL, h1]
          rcases h2 with h2 | h2 <;> rw [h2] <;> exact h5
      · refine .inr ⟨done, y, rest, x, f, h', e, ?_, h3⟩
        simp only [List.map_cons, forL, h1, h2]
  exact key l [] σ h rfl h0
/-- a comprehension over encoded things -/
theorem comp_map {α : Type} {enc : α → D} {tg : Tg} {t e : Sl → Hist → RE} {p : α → Bool} {g : α → D} : ∀ {l : List α}, (∀ y ∈ l, ∃ σ', asgT tg (enc y) σ = some σ' ∧ (∃ f, t σ' h = .ok (.bool (p y)) f h) ∧ (p y = true → ∃ f, f ≠ .wk ∧ f ≠ .ct ∧ e σ' h = .ok (g y) f h)) →
    compL tg t e σ (l.map enc) h = .ok ((l.filter p).map g) h
  | [], _ => rfl
  | y :: ys, hy => by
    obtain ⟨σ', h1, ⟨f, h2⟩, h3⟩ := hy y (by simp)
    have ih := comp_map (l := ys) fun z hz => hy z (by simp [hz])
    simp only [List.map_cons, compL, h1, h2]
    cases hp : p y with
    | false => simp only [ih, List.filter_cons, hp]; rfl
    | true =>
      obtain ⟨f2, n1, n2, h4⟩ := h3 hp
      simp only [h4, ih, List.filter_cons, hp]
      cases f2 <;> first | exact absurd rfl n1 | exact absurd rfl n2 | rfl
/-- the numbers from i on beside the things -/
def enumL {α : Type} : Nat → List α → List (Nat × α)
  | _, [] => []
  | i, x :: l => (i, x) :: enumL (i + 1) l
theorem enumD_eq {α : Type} (enc : α → D) : ∀ (i : Nat) (l : List α), enumD (i : Int) (l.map enc) = (enumL i l).map fun p => .tuple [.int (p.1 : Int), enc p.2]
  | i, [] => rfl
  | i, x :: l => by
    have := enumD_eq enc (i + 1) l
    simp only [List.map_cons, enumD, iF_eq, enumL]
    rw [← this]
    rfl
theorem enumL_app {α : Type} : ∀ (i : Nat) (l m : List α), enumL i (l ++ m) = enumL i l ++ enumL (i + l.length) m
  | i, [], m => by simp [enumL]
  | i, x :: l, m => by
    simp only [List.cons_append, enumL, enumL_app (i + 1) l m, List.length_cons]
    rw [show i + 1 + l.length = i + (l.length + 1) by omega]
theorem enumL_len {α : Type} : ∀ (i : Nat) (l : List α), (enumL i l).length = l.length
  | _, [] => rfl
  | i, x :: l => by simp [enumL, enumL_len (i + 1) l]
theorem mem_enumL {α : Type} {j : Nat} {x : α} : ∀ {i : Nat} {l : List α}, (j, x) ∈ enumL i l ↔ i ≤ j ∧ l[j - i]? = some x
  | i, [] => by simp [enumL]
  | i, y :: l => by
    simp only [enumL, List.mem_cons, Prod.mk.injEq, mem_enumL (i := i + 1) (l := l)]
    constructor
    · rintro (⟨rfl, rfl⟩ | ⟨h1, h2⟩)
      · simp
      · refine ⟨by omega, ?_⟩
        rw [show j - i = (j - (i + 1)) + 1 by omega]
        simpa using h2
    · rintro ⟨h1, h2⟩
      by_cases e : j = i
      · left; subst e; simpa [eq_comm] using h2
      · right
        refine ⟨by omega, ?_⟩
        rw [show j - i = (j - (i + 1)) + 1 by omega] at h2
        simpa using h2
theorem rng_eq : ∀ (n : Nat) (a : Int), rngN n a = dI (seg a n)
  | 0, _ => rfl
  | n + 1, a => by
    simp only [rngN, iF_eq, seg, dI, List.map_cons]
    rw [rng_eq n (a + 1)]; rfl
end
end Og

end
section
set_option Elab.async false
set_option linter.all false
set_option maxRecDepth 100000
/-! Rows from choices and gaps: plain. -/
namespace Og
def validC (c : W3 × Int) (many : Nat) : Prop := 0 ≤ c.2 ∧ c.2 < waysM c.1 many
/-- all choices valid, one after another, from many groups on; in the end m groups -/
def Valid : Nat → List (W3 × Int) → Prop
  | _, [] => True
  | many, c :: cs => validC c many ∧ Valid ((many : Int) + stepM c.1).toNat cs
def groupsFrom (G : List (List Int)) : Nat → List (W3 × Int) → List (List Int)
  | _, [] => G
  | t, c :: cs => groupsFrom (grownM G t c) (t + 1) cs
def groupsM (cs : List (W3 × Int)) : List (List Int) := groupsFrom [] 0 cs
theorem groupsFrom_snoc : ∀ (cs : List (W3 × Int)) (G : List (List Int)) (t : Nat) (c : W3 × Int), groupsFrom G t (cs ++ [c]) = grownM (groupsFrom G t cs) ((t + cs.length : Nat) : Int) c
  | [], G, t, c => by simp [groupsFrom]
  | d :: cs, G, t, c => by
    simp only [List.cons_append, groupsFrom]
    rw [groupsFrom_snoc cs]
    have : t + 1 + cs.length = t + (d :: cs).length := by simp; omega
    rw [this]
theorem groupsM_snoc (cs : List (W3 × Int)) (c : W3 × Int) : groupsM (cs ++ [c]) = grownM (groupsM cs) cs.length c := by
  unfold groupsM; rw [groupsFrom_snoc]; simp
/-! ### grown, when valid -/
theorem drop_at {α : Type} {G : List (List α)} {k : Nat} (hk : k < G.length) : G.drop k = G.getD k [] :: G.drop (k + 1) := by
  rw [List.drop_eq_getElem_cons hk]
  congr 1
  simp [hk]
/-- the new time comes in somewhere, nothing else moves -/
theorem grown_split {G : List (List Int)} {t : Int} {c : W3 × Int} (v : validC c G.length) : ∃ A B, (grownM G t c).flatten = A ++ t :: B ∧ G.flatten = A ++ B := by
  obtain ⟨w, k⟩ := c
  obtain ⟨h0, h1⟩ := v
  simp only at h0 h1
  have hs : ∀ k, G.flatten = (G.take k).flatten ++ (G.drop k).flatten := fun k => by
    conv => lhs; rw [← List.take_append_drop k G]
    rw [List.flatten_append]
  cases w with
  | new =>
    refine ⟨(G.take k.toNat).flatten, (G.drop k.toNat).flatten, ?_, hs _⟩
    simp [grownM]
  | between =>
    simp only [waysM] at h1
    have hk : k.toNat + 1 < G.length := by split at h1 <;> omega
    refine ⟨(G.take k.toNat).flatten ++ G.getD k.toNat [], G.getD (k.toNat + 1) [] ++ (G.drop (k.toNat + 2)).flatten, ?_, ?_⟩
    · simp [grownM]
    · rw [hs k.toNat, drop_at (show k.toNat < G.length by omega), show G.drop (k.toNat + 1) = G.getD (k.toNat + 1) [] :: G.drop (k.toNat + 2) from drop_at hk]
      simp only [List.flatten_cons, List.append_assoc]
  | beside =>
    simp only [waysM] at h1
    have hk : (k / 2).toNat < G.length := by omega
    by_cases e : k % 2 = 0
    · refine ⟨(G.take (k / 2).toNat).flatten, G.getD (k / 2).toNat [] ++ (G.drop ((k / 2).toNat + 1)).flatten, ?_, ?_⟩
      · simp [grownM, e]
      · rw [hs (k / 2).toNat, drop_at hk]
        simp only [List.flatten_cons]
    · refine ⟨(G.take (k / 2).toNat).flatten ++ G.getD (k / 2).toNat [], (G.drop ((k / 2).toNat + 1)).flatten, ?_, ?_⟩
      · simp [grownM, e]
      · rw [hs (k / 2).toNat, drop_at hk]
        simp only [List.flatten_cons, List.append_assoc]
theorem grown_mem {G : List (List Int)} {t : Int} {c : W3 × Int} (v : validC c G.length) (x : Int) : x ∈ (grownM G t c).flatten ↔ x = t ∨ x ∈ G.flatten := by
  obtain ⟨A, B, e1, e2⟩ := grown_split (t := t) v
  rw [e1, e2]
  simp only [List.mem_append, List.mem_cons]
  constructor
  · rintro (h | h | h) <;> simp only [h, true_or, or_true]
  · rintro (h | h | h) <;> simp only [h, true_or, or_true]
theorem grown_nodup {G : List (List Int)} {t : Int} {c : W3 × Int} (v : validC c G.length) (nt : t ∉ G.flatten) (nd : G.flatten.Nodup) : (grownM G t c).flatten.Nodup := by
  obtain ⟨A, B, e1, e2⟩ := grown_split (t := t) v
  rw [e2] at nt nd
  rw [e1]
  exact (List.perm_middle.nodup_iff).mpr (List.nodup_cons.mpr ⟨nt, nd⟩)
theorem grown_len {G : List (List Int)} {t : Int} {c : W3 × Int} (v : validC c G.length) : ((grownM G t c).length : Int) = G.length + stepM c.1 := by
  obtain ⟨w, k⟩ := c
  obtain ⟨h0, h1⟩ := v
  simp only at h0 h1
  cases w with
  | new =>
    simp only [waysM] at h1
    simp only [grownM, stepM, List.length_append, List.length_take, List.length_drop, List.length_cons, List.length_nil]
    omega
  | between =>
    simp only [waysM] at h1
    have hk : k.toNat + 1 < G.length := by split at h1 <;> omega
    simp only [grownM, stepM, List.length_append, List.length_take, List.length_drop, List.length_cons, List.length_nil]
    omega
  | beside =>
    simp only [waysM] at h1
    simp only [grownM, stepM, List.length_append, List.length_take, List.length_drop, List.length_cons, List.length_nil]
    omega
/-! ### placing -/
def placeG : List Int × Int → List Int → List Int × Int
  | s, [] => s
  | s, t :: own => placeG (s.1.set t.toNat s.2, s.2 + 1) own
def placeA : List Int × Int → List (List Int) → List Int → List Int × Int
  | s, [], _ => s
  | s, g :: G, gs => placeA (placeG (s.1, s.2 + gs.headD 0) g) G gs.tail
def rowM (cs : List (W3 × Int)) (gs : List Int) : List Int := (placeA (List.replicate cs.length 0, 0) (groupsM cs) gs).1
def posL (q : List Int) (t : Int) : Int := q.getD t.toNat 0
theorem placeG_len : ∀ (own : List Int) (s : List Int × Int), (placeG s own).1.length = s.1.length ∧ (placeG s own).2 = s.2 + own.length
  | [], s => by simp [placeG]
  | t :: own, s => by
    have := placeG_len own (s.1.set t.toNat s.2, s.2 + 1)
    simp only [placeG, List.length_cons]
    rw [this.1, this.2]
    simp; omega
theorem placeA_len : ∀ (G : List (List Int)) (s : List Int × Int) (gs : List Int), (placeA s G gs).1.length = s.1.length
  | [], s, gs => rfl
  | g :: G, s, gs => by simp only [placeA]; rw [placeA_len G, (placeG_len g _).1]
theorem getD_set {l : List Int} {i j : Nat} {v : Int} (hi : i < l.length) : (l.set i v).getD j 0 = if j = i then v else l.getD j 0 := by
  by_cases e : j = i
  · subst e; simp [hi]
  · have : ¬ i = j := fun q => e q.symm
    simp [List.getD, List.getElem?_set, e, this]
theorem placeG_at {pos : Int → Int} : ∀ (own : List Int) (a : Int) (m : Nat) (fd : List Int), own.map pos = seg a m → (∀ t ∈ own, 0 ≤ t ∧ t < fd.length) → own.Nodup →
    ∀ j : Nat, (placeG (fd, a) own).1.getD j 0 = if (j : Int) ∈ own then pos j else fd.getD j 0
  | [], a, m, fd, _, _, _, j => by simp [placeG]
  | t :: own, a, m, fd, h, hb, nd, j => by
    cases m with
    | zero => simp [seg] at h
    | succ m =>
      simp only [List.map_cons, seg, List.cons.injEq] at h
      obtain ⟨n1, n2⟩ := List.nodup_cons.mp nd
      have ht := hb t (by simp)
      have ih := placeG_at own (a + 1) m (fd.set t.toNat a) h.2 (fun u hu => by rw [List.length_set]; exact hb u (by simp [hu])) n2 j
      simp only [placeG]
      rw [ih, getD_set (by omega)]
      by_cases c : (j : Int) ∈ own
      · simp [c]
      · by_cases c2 : j = t.toNat
        · have : (j : Int) = t := by omega
          rw [this] at c ⊢
          simp [c, c2, h.1]
        · have : ¬ (j : Int) = t := by omega
          simp [c, c2, this]
def holR : Int → IL → List Int
  | _, [] => []
  | b, (a, k) :: r => (a - b) :: holR (a + k + 1) r
theorem hol_R : ∀ (r : IL) (s : List Int × Int), (r.foldl holS s).1 = s.1 ++ holR s.2 r
  | [], s => by simp [holR]
  | (a, k) :: r, s => by rw [List.foldl_cons, hol_R r]; simp [holS, holR]
theorem gapsL_eq (c : Int) (r : IL) : gapsL c r = holR 0 r ++ [c - lastE 0 r] := by
  unfold gapsL
  rw [hol_end]
  have := hol_R r ([], 0)
  unfold hol; rw [this]; rfl
theorem placeA_at {pos : Int → Int} : ∀ (r : IL) (G : List (List Int)) (b : Int) (fd gs : List Int), segs r = G.map (List.map pos) → (∀ t ∈ G.flatten, 0 ≤ t ∧ t < fd.length) → G.flatten.Nodup →
    ∀ j : Nat, (placeA (fd, b) G (holR b r ++ gs)).1.getD j 0 = if (j : Int) ∈ G.flatten then pos j else fd.getD j 0
  | [], G, b, fd, gs, h, _, _, j => by
    have : G = [] := by
      cases G with
      | nil => rfl
      | cons g G => simp [segs] at h
    subst this
    simp [placeA]
  | (a, k) :: r, [], b, fd, gs, h, _, _, j => by simp [segs] at h
  | (a, k) :: r, g :: G, b, fd, gs, h, hb, nd, j => by
    simp only [segs, List.map_cons, List.cons.injEq] at h
    obtain ⟨h1, h2⟩ := h
    have h2 : segs r = G.map (List.map pos) := h2
    simp only [placeA, holR, List.cons_append, List.headD_cons, List.tail_cons]
    rw [show b + (a - b) = a by omega]
    rw [List.flatten_cons] at nd hb
    obtain ⟨n1, n2, n3⟩ := List.nodup_append.mp nd
    have hp := placeG_at (pos := pos) g a (k + 1) fd h1.symm (fun t ht => hb t (by simp [ht])) n1
    have hq := placeG_len g (fd, a)
    have hgl : g.length = k + 1 := by have := congrArg List.length h1; rw [seg_len] at this; simpa using this.symm
    generalize placeG (fd, a) g = s at hp hq
    obtain ⟨fd', b'⟩ := s
    simp only at hp hq
    have eb : b' = a + k + 1 := by rw [hq.2, hgl]; omega
    subst eb
    rw [placeA_at r G (a + k + 1) fd' gs h2 (fun t ht => by rw [hq.1]; exact hb t (by simp [ht])) n2 j, hp j, List.flatten_cons]
    by_cases c1 : (j : Int) ∈ G.flatten
    · simp only [c1, if_true, List.mem_append, or_true]
    · by_cases c2 : (j : Int) ∈ g <;> simp only [c1, c2, if_true, if_false, List.mem_append, or_false, or_true, or_self]
/-! ### back -/
def picksM (q : List Int) : List (W3 × Int) := (enumL 0 q).map fun x => chM x.2 0 (iv (q.take x.1))
theorem picks_snoc (q : List Int) (p : Int) : picksM (q ++ [p]) = picksM q ++ [chM p 0 (iv q)] := by
  unfold picksM
  rw [enumL_app, List.map_append]
  congr 1
  · apply List.map_congr_left
    intro x hx
    have hx := (mem_enumL (j := x.1) (x := x.2)).mp hx
    have : x.1 < q.length := by
      have := (List.getElem?_eq_some_iff.mp hx.2).1; omega
    rw [List.take_append_of_le_length (by omega)]
  · simp [enumL]
theorem picks_len (q : List Int) : (picksM q).length = q.length := by simp [picksM, enumL_len]
theorem snoc_rec {α : Type} {motive : List α → Prop} (nil : motive []) (snoc : ∀ l x, motive l → motive (l ++ [x])) (l : List α) : motive l := by
  have : ∀ m : List α, motive m.reverse := fun m => by
    induction m with
    | nil => exact nil
    | cons x m ih => rw [List.reverse_cons]; exact snoc _ _ ih
  have := this l.reverse
  rwa [List.reverse_reverse] at this
theorem groups_q : ∀ (q : List Int), q.Nodup → segs (iv q) = (groupsM (picksM q)).map (List.map (posL q)) ∧ (∀ x, x ∈ (groupsM (picksM q)).flatten ↔ 0 ≤ x ∧ x < q.length) ∧ (groupsM (picksM q)).flatten.Nodup := by
  intro q
  induction q using snoc_rec with
  | nil => intro _; refine ⟨rfl, fun x => ?_, by simp [groupsM, groupsFrom, picksM, enumL]⟩; simp [groupsM, groupsFrom, picksM, enumL]
  | snoc q p ih =>
    intro nd
    have nd1 : q.Nodup := (List.nodup_append.mp nd).1
    obtain ⟨i1, i2, i3⟩ := ih nd1
    rw [picks_snoc, groupsM_snoc, picks_len]
    have hpos : posL (q ++ [p]) (q.length : Int) = p := by simp [posL]
    have i1' : segs (iv q) = (groupsM (picksM q)).map (List.map (posL (q ++ [p]))) := by
      rw [i1]
      apply List.map_congr_left
      intro g hg
      apply List.map_congr_left
      intro x hx
      have := (i2 x).mp (List.mem_flatten.mpr ⟨g, hg, hx⟩)
      have hx : x.toNat < q.length := by omega
      simp [posL, List.getD, List.getElem?_append_left hx]
    obtain ⟨G', g1, g2, g3⟩ := grown_at hpos (iv q) (groupsM (picksM q)) [] i1'
    simp only [List.nil_append, List.length_nil] at g1
    have g1 : grownM (groupsM (picksM q)) (q.length : Int) (chM p 0 (iv q)) = G' := g1
    rw [g1, iv_snoc nd]
    refine ⟨g2, fun x => ?_, ?_⟩
    · rw [g3, i2]; simp; omega
    · rw [← g1]
      refine grown_nodup ?_ ?_ i3
      · have hl : (groupsM (picksM q)).length = (iv q).length := by
          have := congrArg List.length i1
          simpa [segs] using this.symm
        rw [hl]
        exact ch_ways (iv q)
      · rw [i2]; omega
theorem row_back {c : Int} {q : List Int} (nd : q.Nodup) : rowM (picksM q) (gapsL c (iv q)) = q := by
  obtain ⟨h1, h2, h3⟩ := groups_q q nd
  unfold rowM
  rw [picks_len, gapsL_eq]
  have hl := placeA_len (groupsM (picksM q)) (List.replicate q.length 0, 0) (holR 0 (iv q) ++ [c - lastE 0 (iv q)])
  have ha := placeA_at (pos := posL q) (iv q) (groupsM (picksM q)) 0 (List.replicate q.length 0) [c - lastE 0 (iv q)] h1 (fun t ht => by have := (h2 t).mp ht; simp; omega) h3
  apply List.ext_getElem?
  intro j
  have := ha j
  by_cases e : j < q.length
  · rw [if_pos ((h2 j).mpr (by omega))] at this
    simp only [List.length_replicate] at hl
    have e1 : j < (placeA (List.replicate q.length 0, 0) (groupsM (picksM q)) (holR 0 (iv q) ++ [c - lastE 0 (iv q)])).1.length := by omega
    simp only [List.getD, List.getElem?_eq_getElem e1, Option.getD_some, posL, Int.toNat_natCast, List.getElem?_eq_getElem e] at this
    rw [List.getElem?_eq_getElem e1, List.getElem?_eq_getElem e, this]
  · rw [List.getElem?_eq_none (by simp at hl; omega), List.getElem?_eq_none (by omega)]
end Og
namespace Og
/-! ### valid choices -/
def endM : Nat → List (W3 × Int) → Nat
  | m, [] => m
  | m, c :: cs => endM ((m : Int) + stepM c.1).toNat cs
theorem endM_app : ∀ (a : List (W3 × Int)) (m : Nat) (b : List (W3 × Int)), endM m (a ++ b) = endM (endM m a) b
  | [], m, b => rfl
  | c :: a, m, b => by simp only [List.cons_append, endM]; exact endM_app a _ b
theorem valid_app : ∀ {a : List (W3 × Int)} {m : Nat} {b : List (W3 × Int)}, Valid m (a ++ b) ↔ Valid m a ∧ Valid (endM m a) b
  | [], m, b => by simp [Valid, endM]
  | c :: a, m, b => by simp only [List.cons_append, Valid, endM, valid_app (a := a), and_assoc]
theorem groups_info : ∀ (cs : List (W3 × Int)), Valid 0 cs → (groupsM cs).length = endM 0 cs ∧ (∀ x, x ∈ (groupsM cs).flatten ↔ 0 ≤ x ∧ x < cs.length) ∧ (groupsM cs).flatten.Nodup ∧ (groupsM cs).flatten.length = cs.length ∧ endM 0 cs ≤ cs.length := by
  intro cs
  induction cs using snoc_rec with
  | nil => intro _; exact ⟨rfl, fun x => by simp [groupsM, groupsFrom], by simp [groupsM, groupsFrom], rfl, by simp [endM]⟩
  | snoc cs c ih =>
    intro v
    obtain ⟨v1, v2⟩ := valid_app.mp v
    obtain ⟨i1, i2, i3, i4, i5⟩ := ih v1
    have vc : validC c (groupsM cs).length := by rw [i1]; exact v2.1
    rw [groupsM_snoc, endM_app]
    obtain ⟨A, B, e1, e2⟩ := grown_split (t := (cs.length : Int)) vc
    have hs : stepM c.1 ≤ 1 := by cases c.1 <;> simp [stepM]
    refine ⟨?_, fun x => ?_, grown_nodup vc (by rw [i2]; omega) i3, ?_, ?_⟩
    · have := grown_len (t := (cs.length : Int)) vc
      simp only [endM]; omega
    · rw [grown_mem vc, i2]; simp; omega
    · rw [e1]; rw [e2] at i4; simp at i4 ⊢; omega
    · simp only [endM, List.length_append, List.length_cons, List.length_nil]; omega
theorem placeA_snoc : ∀ (G : List (List Int)) (s : List Int × Int) (gs g : List Int), placeA s (G ++ [g]) gs = placeG ((placeA s G gs).1, (placeA s G gs).2 + gs.getD G.length 0) g
  | [], s, gs, g => by cases gs <;> simp [placeA]
  | a :: G, s, gs, g => by
    simp only [List.cons_append, placeA]
    rw [placeA_snoc G]
    cases gs <;> simp
theorem placeG_snoc : ∀ (own : List Int) (s : List Int × Int) (t : Int), placeG s (own ++ [t]) = ((placeG s own).1.set t.toNat (placeG s own).2, (placeG s own).2 + 1)
  | [], s, t => rfl
  | a :: own, s, t => by simp only [List.cons_append, placeG]; exact placeG_snoc own _ t
end Og

end
section
set_option Elab.async false
set_option linter.all false
set_option maxRecDepth 100000
/-! Steps of a symbolic run. -/
namespace Og
open PySem
def okF : Fl → Bool
  | .wk => false
  | .ct => false
  | _ => true
section
variable {o : Hist → Int → Int} {G : List D} {F : List Og.Def} {W n : Nat} {φ : Nat → List Arg → Hist → RE} {σ σ' : Sl} {h h' h2 : Hist} {R : Out} {x y : D} {f f2 : Fl}
theorem fn_ret {s : Out} (e : s = .ret x f h) : fnEnd s = .ok x f h := by rw [e]; rfl
theorem fn_nx {s : Out} (e : s = .nx σ h) : fnEnd s = .ok .none .pl h := by rw [e]; rfl
theorem x_seq {a b : Og.S} (h1 : exec o G φ W a σ h = .nx σ' h') (q : exec o G φ W b σ' h' = R) : exec o G φ W (.seq a b) σ h = R := by
  rw [exec, h1]; exact q
theorem st_asg {i : Nat} {e : Og.E} (h1 : ev o G φ e false σ h = .ok x f h') (hf : okF f = true) : exec o G φ W (.asg (.nm i) e) σ h = .nx (setS σ i (some (.d x))) h' := by
  rw [exec, h1]
  cases f <;> first | exact absurd hf (by decide) | rfl
theorem x_asg {i : Nat} {e : Og.E} {b : Og.S} (h1 : ev o G φ e false σ h = .ok x f h') (hf : okF f = true) (q : exec o G φ W b (setS σ i (some (.d x))) h' = R) : exec o G φ W (.seq (.asg (.nm i) e) b) σ h = R :=
  x_seq (st_asg h1 hf) q
theorem x_asgT {tg : Tg} {e : Og.E} {b : Og.S} (h1 : ev o G φ e false σ h = .ok x f h') (hf : okF f = true) (h3 : asgT tg x σ = some σ') (q : exec o G φ W b σ' h' = R) : exec o G φ W (.seq (.asg tg e) b) σ h = R := by
  rw [exec, exec, h1]
  cases f <;> first | exact absurd hf (by decide) | (simp only [strong, h3]; exact q)
theorem x_ret {e : Og.E} (h1 : ev o G φ e false σ h = .ok x f h') (hf : okF f = true) : exec o G φ W (.ret e) σ h = .ret x f h' := by
  rw [exec, h1]
  cases f <;> first | exact absurd hf (by decide) | rfl
theorem x_ift {c : Og.E} {a b : Og.S} (h1 : ev o G φ c true σ h = .ok (.bool true) f h') (q : exec o G φ W a σ h' = R) : exec o G φ W (.ifs c a b) σ h = R := by
  rw [exec, h1]; exact q
theorem x_iff {c : Og.E} {a b : Og.S} (h1 : ev o G φ c true σ h = .ok (.bool false) f h') (q : exec o G φ W b σ h' = R) : exec o G φ W (.ifs c a b) σ h = R := by
  rw [exec, h1]; exact q
theorem x_if {c : Og.E} {a b : Og.S} {P : Prop} [Decidable P] (h1 : ev o G φ c true σ h = .ok (.bool (decide P)) f h') (q1 : P → exec o G φ W a σ h' = R) (q2 : ¬ P → exec o G φ W b σ h' = R) : exec o G φ W (.ifs c a b) σ h = R := by
  by_cases p : P
  · exact x_ift (f := f) (by rw [h1]; simp [p]) (q1 p)
  · exact x_iff (f := f) (by rw [h1]; simp [p]) (q2 p)
/-- an if that returns, and what follows -/
theorem x_sif {c : Og.E} {a b : Og.S} {P : Prop} [Decidable P] (h1 : ev o G φ c true σ h = .ok (.bool (decide P)) f h') (q1 : P → ∃ x f h2, exec o G φ W a σ h' = .ret x f h2 ∧ R = .ret x f h2) (q2 : ¬ P → exec o G φ W b σ h' = R) : exec o G φ W (.seq (.ifs c a .skip) b) σ h = R := by
  rw [exec, exec, h1]
  by_cases p : P
  · obtain ⟨x, f, h2, e1, e2⟩ := q1 p
    simp only [p, decide_true, e1, e2]
  · simp only [p, decide_false, exec]; exact q2 p
theorem x_sif0 {c : Og.E} {a b : Og.S} (h1 : ev o G φ c true σ h = .ok (.bool false) f h') (q2 : exec o G φ W b σ h' = R) : exec o G φ W (.seq (.ifs c a .skip) b) σ h = R := by
  rw [exec, exec, h1]; exact q2
theorem x_sif1 {c : Og.E} {a b b2 : Og.S} (h1 : ev o G φ c true σ h = .ok (.bool true) f h') (q2 : exec o G φ W a σ h' = .ret x f2 h2) : exec o G φ W (.seq (.ifs c a b2) b) σ h = .ret x f2 h2 := by
  rw [exec, exec, h1]; simp only [q2]
theorem x_own {i : Nat} {e : Og.E} {b : Og.S} (h1 : ev o G φ e false σ h = .ok x .fr h') (q : exec o G φ W b (setS σ i (some (.own x))) h' = R) : exec o G φ W (.seq (.own i e) b) σ h = R := by
  rw [exec, exec, h1]; exact q
theorem x_par {is : List (Nat × Bool)} {es : Og.E} {b : Og.S} {as : List Arg} (h1 : evs o G φ es σ h = .ok as h') (h3 : parS is as σ = some σ') (q : exec o G φ W b σ' h' = R) : exec o G φ W (.seq (.par is es) b) σ h = R := by
  rw [exec, exec, h1]; simp only [h3]; exact q
theorem st_app {i : Nat} {e : Og.E} {xs : List D} (h3 : getS σ i = some (.own (.list xs))) (h1 : ev o G φ e false σ h = .ok x f h') (hf : okF f = true) (hl : xs.length < 16777216) : exec o G φ W (.app i e) σ h = .nx (setS σ i (some (.own (.list (xs ++ [x]))))) h' := by
  rw [exec, h3]
  simp only [h1]
  have : Nat.blt xs.length 16777216 = true := Nat.blt_eq.mpr hl
  cases f <;> first | exact absurd hf (by decide) | simp only [strong, this]
theorem x_app {i : Nat} {e : Og.E} {b : Og.S} {xs : List D} (h3 : getS σ i = some (.own (.list xs))) (h1 : ev o G φ e false σ h = .ok x f h') (hf : okF f = true) (hl : xs.length < 16777216) (q : exec o G φ W b (setS σ i (some (.own (.list (xs ++ [x]))))) h' = R) : exec o G φ W (.seq (.app i e) b) σ h = R := x_seq (st_app h3 h1 hf hl) q
theorem x_for {tg : Tg} {k : Kd} {its : Og.E} {body b : Og.S} {as : List Arg} {l ys : List D} (h1 : evs o G φ its σ h = .ok as h') (h3 : steadys as = some l) (h4 : walkV k l h' = .ok ys h') (h5 : ∃ σ' h2, forL tg (exec o G φ W body) ys σ h' = .nx σ' h2 ∧ exec o G φ W b σ' h2 = R) : exec o G φ W (.seq (.for_ tg k its body) b) σ h = R := by
  obtain ⟨σ', h2, e1, e2⟩ := h5
  rw [exec, exec, h1]
  simp only [h3, h4, e1]; exact e2
/-! expressions -/
theorem v_comp {elt : Og.E} {own : List Nat} {tg : Tg} {k : Kd} {its ifs : Og.E} {as : List Arg} {l ys zs : List D} (h1 : evs o G φ its σ h = .ok as h') (h3 : weaks as = some l) (h4 : walkV k l h' = .ok ys h') (h5 : compL tg (tsts o G φ ifs) (ev o G φ elt false) (wipeS σ own) ys h' = .ok zs h2) (hl : zs.length ≤ 16777216) : ev o G φ (.comp elt own tg k its ifs) false σ h = .ok (.list zs) .fr h2 := by
  rw [ev, h1]
  simp only [h3, h4, h5, lenOk_of hl, fin]
theorem v_call {i : Nat} {es : Og.E} {as : List Arg} (h1 : evs o G φ es σ h = .ok as h') (hp : passes as = true) (q : φ i as h' = .ok x f h2) : ev o G φ (.call i es) false σ h = .ok x f h2 := by
  rw [ev, h1]; simp only [hp, q, fin]
theorem v_blt1 {b : Blt} {e : Og.E} (hb : boxAt e σ = false) (h1 : ev o G φ e false σ h = .ok x f h') (hf : f ≠ .ct) (q : bltV b [x] h' = .ok y f2 h') : ev o G φ (.blt b (.cons e .nil)) false σ h = .ok y f2 h' := by
  rw [ev, evs, hb, h1]
  simp only [evs]
  cases f with
  | ct => exact absurd rfl hf
  | _ => simp only [nearly, q, fin]
theorem v_or0 {a b : Og.E} {m : Bool} {r : RE} (h1 : ev o G φ a m σ h = .ok (.bool false) f h') (q : ev o G φ b m σ h' = r) : ev o G φ (.or a b) m σ h = r := by
  rw [ev, h1]; exact q
theorem v_or1 {a b : Og.E} {m : Bool} (h1 : ev o G φ a m σ h = .ok (.bool true) f h') : ev o G φ (.or a b) m σ h = .ok (.bool true) .pl h' := by
  rw [ev, h1]
theorem v_and1 {a b : Og.E} {m : Bool} {r : RE} (h1 : ev o G φ a m σ h = .ok (.bool true) f h') (q : ev o G φ b m σ h' = r) : ev o G φ (.and a b) m σ h = r := by
  rw [ev, h1]; exact q
theorem v_and0 {a b : Og.E} {m : Bool} (h1 : ev o G φ a m σ h = .ok (.bool false) f h') : ev o G φ (.and a b) m σ h = .ok (.bool false) .pl h' := by
  rw [ev, h1]
theorem v_or {a b : Og.E} {m : Bool} {P Q : Prop} [Decidable P] [Decidable Q] (h1 : ev o G φ a m σ h = .ok (.bool (decide P)) f h') (q : ¬ P → ev o G φ b m σ h' = .ok (.bool (decide Q)) .pl h') : ev o G φ (.or a b) m σ h = .ok (.bool (decide (P ∨ Q))) .pl h' := by
  rw [ev, h1]
  by_cases p : P
  · simp [p]
  · simp only [p, decide_false, false_or]; exact q p
theorem v_and {a b : Og.E} {m : Bool} {P Q : Prop} [Decidable P] [Decidable Q] (h1 : ev o G φ a m σ h = .ok (.bool (decide P)) f h') (q : P → ev o G φ b m σ h' = .ok (.bool (decide Q)) .pl h') : ev o G φ (.and a b) m σ h = .ok (.bool (decide (P ∧ Q))) .pl h' := by
  rw [ev, h1]
  by_cases p : P
  · simp only [p, decide_true, true_and]; exact q p
  · simp [p]
theorem v_not {a : Og.E} {m b : Bool} (h1 : ev o G φ a m σ h = .ok (.bool b) f h') : ev o G φ (.not a) m σ h = .ok (.bool (!b)) .pl h' := by
  rw [ev, h1]; rfl
theorem v_ite1 {c a b : Og.E} {m : Bool} {r : RE} (h1 : ev o G φ c true σ h = .ok (.bool true) f h') (q : ev o G φ a m σ h' = r) : ev o G φ (.ite c a b) m σ h = r := by
  rw [ev, h1]; exact q
theorem v_ite0 {c a b : Og.E} {m : Bool} {r : RE} (h1 : ev o G φ c true σ h = .ok (.bool false) f h') (q : ev o G φ b m σ h' = r) : ev o G φ (.ite c a b) m σ h = r := by
  rw [ev, h1]; exact q
theorem v_take {i : Nat} {e : Og.E} {m : Int} (hb : getS σ i = some .box) (h1 : ev o G φ e false σ h = .ok (.int m) f h') (m0 : 0 < m) (m1 : m < 18446744073709551616) (hl : h'.length < 1000000) : ev o G φ (.take (.var i) e) false σ h = .ok (.int (o h' m)) .pl (m :: h') := by
  rw [ev]
  simp only [boxAt, hb, h1]
  have e1 : ltI 0 m = true := by rw [ltI_dec]; simpa using m0
  have e2 : small m = true := small_of (by omega) m1
  have e3 : Nat.blt h'.length 1000000 = true := Nat.blt_eq.mpr hl
  simp only [e1, e2, e3, Bool.and_self, mkI, fin]
theorem v_cmp {op : Cop} {a b : Og.E} {m : Bool} {r : RE} {h3 : Hist} (h1 : ev o G φ a false σ h = .ok x f h') (hf : f ≠ .ct) (q : ev o G φ b false σ h' = .ok y f2 h3) (hc : ctOk f2 x y = true) (r1 : cmpV op x y h3 = r) : ev o G φ (.cmp op a b) m σ h = r := by
  rw [ev, h1]
  cases f with
  | ct => exact absurd rfl hf
  | _ => simp only [nc, q, hc]; exact r1
theorem v_sub {a i : Og.E} {h3 : Hist} {r : RE} (h1 : ev o G φ a false σ h = .ok x f h') (q : ev o G φ i false σ h' = .ok y f2 h3) (hf : f2 ≠ .ct) (hc : ctOk f y x = true) (r1 : subV x y h3 = r) : ev o G φ (.sub a i) false σ h = r := by
  rw [ev, h1]
  simp only [q]
  cases f2 with
  | ct => exact absurd rfl hf
  | _ => simp only [nc, hc, fin]; exact r1
theorem es_cons {a b : Og.E} {xs : List Arg} {h3 : Hist} (hb : boxAt a σ = false) (h1 : ev o G φ a false σ h = .ok x f h') (q : evs o G φ b σ h' = .ok xs h3) : evs o G φ (.cons a b) σ h = .ok (.d x f :: xs) h3 := by
  rw [evs, hb, h1]; simp only [q]
theorem es_box {i : Nat} {b : Og.E} {xs : List Arg} (hb : getS σ i = some .box) (q : evs o G φ b σ h = .ok xs h') : evs o G φ (.cons (.var i) b) σ h = .ok (.box :: xs) h' := by
  rw [evs]; simp only [boxAt, hb, q]
theorem es_nil : evs o G φ .nil σ h = .ok [] h := by rw [evs]
theorem v_bin {op : Bop} {a b : Og.E} {h3 : Hist} {r : RE} (h1 : ev o G φ a false σ h = .ok x f h') (hf : f ≠ .ct) (q : ev o G φ b false σ h' = .ok y f2 h3) (hf2 : f2 ≠ .ct) (r1 : binV op x y h3 = r) : ev o G φ (.bin op a b) false σ h = r := by
  rw [ev, h1]
  cases f with
  | ct => exact absurd rfl hf
  | _ =>
    simp only [nc, q]
    cases f2 with
    | ct => exact absurd rfl hf2
    | _ => simp only [nc, fin]; exact r1
theorem v_callk {i : Nat} {ps : List Nat} {es : Og.E} {as bs : List Arg} (h1 : evs o G φ es σ h = .ok as h') (hp : passes as = true) (hp2 : permA as ps = some bs) (q : φ i bs h' = .ok x f h2) : ev o G φ (.callk i ps es) false σ h = .ok x f h2 := by
  rw [ev, h1]; simp only [hp, hp2, q, fin]
theorem v_lst {es : Og.E} {as : List Arg} {l : List D} (h1 : evs o G φ es σ h = .ok as h') (hs : strongs as = some l) : ev o G φ (.lst es) false σ h = .ok (.list l) .fr h' := by
  rw [ev, h1]; simp only [hs, fin]
theorem v_tup {es : Og.E} {as : List Arg} {l : List D} (h1 : evs o G φ es σ h = .ok as h') (hs : strongs as = some l) : ev o G φ (.tup es) false σ h = .ok (.tuple l) .pl h' := by
  rw [ev, h1]; simp only [hs, fin]
/-- in a test -/
theorem v_tst {e : Og.E} {b : Bool} (h1 : ev o G φ e false σ h = .ok (.bool b) f h') (q : ev o G φ e true σ h = fin true (ev o G φ e false σ h)) : ev o G φ e true σ h = .ok (.bool b) .pl h' := by
  rw [q, h1]; rfl
theorem t_call {i : Nat} {es : Og.E} {as : List Arg} {b : Bool} (h1 : evs o G φ es σ h = .ok as h') (hp : passes as = true) (q : φ i as h' = .ok (.bool b) f h2) : ev o G φ (.call i es) true σ h = .ok (.bool b) .pl h2 := by
  rw [ev, h1]; simp only [hp, q, fin, truD, mkB]
/-- a drawn number is within its bounds -/
def GoodO (o : Hist → Int → Int) : Prop := ∀ h m, 0 < m → 0 ≤ o h m ∧ o h m < m
end
end Og

end
section
set_option Elab.async false
set_option linter.all false
set_option maxRecDepth 100000
/-! starts, choice_of -/
namespace Lw
open PySem Og
section
variable {o : Hist → Int → Int} {G : List D} {F : List Og.Def} {W n : Nat} {h : Hist}
def nbM (p : Int) (there : List Int) : Int := (if p - 1 ∈ there then 1 else 0) + (if p + 1 ∈ there then 1 else 0)
theorem c_neighbours [Fn F 2 d2] {p : Int} {there : List Int} {f1 f2 : Fl} (b : Bool) : callN o G F W (n + 1) 2 [.d (.int p) f1, .d (sq b (dI there)) f2] h = .ok (.int (nbM p there)) .pl h := by
  rw [call_eq 2 rfl]
  dsimp only [b2, Og.exec, ev, evs, tsts, evd, fin, nc, strong, getS, setS, wipeS, padS, svOf, binV, addV, mkI, mkB, strongs, weaks, nearly, steadys, passes, walkV, seqOf, asgT, parS, cmpV, ctOk, boxAt, fnEnd, truD, oi, flG, compL]
  simp only [cIn_sq]
  unfold nbM
  by_cases h1 : p - 1 ∈ there <;> by_cases h2 : p + 1 ∈ there <;> simp only [h1, h2, decide_true, decide_false, if_true, if_false] <;> rfl
def stP (there : List Int) : List Int := (srtI there).filter fun p => !decide (p - 1 ∈ there)
theorem c_starts [Fn F 20 d20] {there : List Int} {f : Fl} (b : Bool) (hl : there.length ≤ 1000) : callN o G F W (n + 1) 20 [.d (sq b (dI there)) f] h = .ok (.list (dI (stP there))) .fr h := by
  rw [call_eq 20 rfl]
  dsimp only [b20, Og.exec, ev, evs, tsts, evd, fin, nc, strong, getS, setS, wipeS, padS, svOf, binV, addV, mkI, mkB, strongs, weaks, nearly, steadys, passes, walkV, seqOf, asgT, parS, cmpV, ctOk, boxAt, fnEnd, truD, oi, flG]
  simp only [sorted_sq]
  dsimp only [Og.exec, ev, evs, tsts, evd, fin, nc, strong, getS, setS, wipeS, padS, svOf, binV, addV, mkI, mkB, strongs, weaks, nearly, steadys, passes, walkV, seqOf, asgT, parS, cmpV, ctOk, boxAt, fnEnd, truD, oi, flG]
  rw [comp_ints (p := fun p => !decide (p - 1 ∈ there)) (g := PyData.int) (fun i hi => ⟨⟨.pl, by dsimp only [Og.exec, ev, evs, tsts, evd, fin, nc, strong, getS, setS, wipeS, padS, svOf, binV, addV, mkI, mkB, strongs, weaks, nearly, steadys, passes, walkV, seqOf, asgT, parS, cmpV, ctOk, boxAt, fnEnd, truD, oi, flG]; simp only [cIn_sq]; cases decide (i - 1 ∈ there) <;> rfl⟩, fun _ => ⟨.pl, by decide, by decide, rfl⟩⟩)]
  simp only [lenOk_f (show (srtI there).length ≤ 16777216 by rw [srtI_len]; omega)]
  rfl
def encC (c : W3 × Int) : D := .tuple [.str (wS c.1), .int c.2]
def leftP (p : Int) (there : List Int) : Int := (((stP there).filter fun s => decide (s < p)).length : Nat)
theorem mul2 {x : Int} : mulV (.int 2) (.int x) h = .ok (.int (2 * x)) .pl h := mulV_int rfl
theorem len_lst {l : List D} : bltV .len [.list l] h = .ok (.int (l.length : Nat)) .pl h := rfl
theorem c_choice_of [Fn F 2 d2] [Fn F 20 d20] [Fn F 21 d21] {p : Int} {there : List Int} {f1 f2 : Fl} (b : Bool) (hl : there.length ≤ 1000) :
    callN o G F W (n + 2) 21 [.d (.int p) f1, .d (sq b (dI there)) f2] h = .ok (encC (choiceP (leftP p there) (nbM p there) (decide (p - 1 ∈ there)))) .pl h := by
  rw [call_eq 21 rfl]
  dsimp only [b21, Og.exec, ev, evs, tsts, evd, fin, nc, strong, getS, setS, wipeS, padS, svOf, binV, addV, mkI, mkB, strongs, weaks, nearly, steadys, passes, walkV, seqOf, asgT, parS, cmpV, ctOk, boxAt, fnEnd, truD, oi, flG]
  simp only [c_starts b hl, c_neighbours b]
  dsimp only [Og.exec, ev, evs, tsts, evd, fin, nc, strong, getS, setS, wipeS, padS, svOf, binV, addV, mkI, mkB, strongs, weaks, nearly, steadys, passes, walkV, seqOf, asgT, parS, cmpV, ctOk, boxAt, fnEnd, truD, oi, flG]
  rw [comp_ints (p := fun s => decide (s < p)) (g := PyData.int) (fun i hi => ⟨⟨.pl, by dsimp only [Og.exec, ev, evs, tsts, evd, fin, nc, strong, getS, setS, wipeS, padS, svOf, binV, addV, mkI, mkB, strongs, weaks, nearly, steadys, passes, walkV, seqOf, asgT, parS, cmpV, ctOk, boxAt, fnEnd, truD, oi, flG]; simp only [cLt_int]; cases decide (i < p) <;> rfl⟩, fun _ => ⟨.pl, by decide, by decide, rfl⟩⟩)]
  have hs : (stP there).length ≤ 16777216 := Nat.le_trans (List.length_filter_le _ _) (by rw [srtI_len]; omega)
  simp only [lenOk_f hs]
  dsimp only [Og.exec, ev, evs, tsts, evd, fin, nc, strong, getS, setS, wipeS, padS, svOf, binV, addV, mkI, mkB, strongs, weaks, nearly, steadys, passes, walkV, seqOf, asgT, parS, cmpV, ctOk, boxAt, fnEnd, truD, oi, flG, bltV]
  have e : (((List.filter (fun s => decide (s < p)) (stP there)).map PyData.int).length : Int) = leftP p there := by simp [leftP]
  simp only [e, c_neighbours b]
  dsimp only [Og.exec, ev, evs, tsts, evd, fin, nc, strong, getS, setS, wipeS, padS, svOf, binV, addV, mkI, mkB, strongs, weaks, nearly, steadys, passes, walkV, seqOf, asgT, parS, cmpV, ctOk, boxAt, fnEnd, truD, oi, flG]
  simp only [cEq_int]
  unfold choiceP encC
  by_cases h0 : nbM p there = 0
  · simp only [h0, decide_true, if_true]; rfl
  · by_cases h2 : nbM p there = 2
    · simp only [h2, show ¬ (2 : Int) = 0 from by decide, decide_true, decide_false, if_true, if_false]
      repeat (first | dsimp only [Og.exec, ev, evs, tsts, evd, fin, nc, strong, getS, setS, wipeS, padS, svOf, binV, addV, mkI, mkB, strongs, weaks, nearly, steadys, passes, walkV, seqOf, asgT, parS, cmpV, ctOk, boxAt, fnEnd, truD, oi, flG] | simp only [s_new, s_beside, s_between, cEq_w, cNe_w, cEq_int, cNe_int, cLt_int, cLe_int, ltI_dec, leI_dec, eq_self, reduceCtorEq, decide_true, decide_false, Bool.not_true, Bool.not_false])
    · simp only [h0, h2, decide_false, if_false]
      repeat (first | dsimp only [Og.exec, ev, evs, tsts, evd, fin, nc, strong, getS, setS, wipeS, padS, svOf, binV, addV, mkI, mkB, strongs, weaks, nearly, steadys, passes, walkV, seqOf, asgT, parS, cmpV, ctOk, boxAt, fnEnd, truD, oi, flG] | simp only [s_new, s_beside, s_between, cEq_w, cNe_w, cEq_int, cNe_int, cLt_int, cLe_int, ltI_dec, leI_dec, eq_self, reduceCtorEq, decide_true, decide_false, Bool.not_true, Bool.not_false, h2, cIn_sq, mul2])
      by_cases h1 : p - 1 ∈ there
      · simp only [h1, decide_true, if_true]; rfl
      · simp only [h1, decide_false, if_false]; rfl
theorem slice_sq (b : Bool) (l : List Int) (k : Nat) : cutV (sq b (dI l)) none (some (k : Int)) h = .ok (sq b (dI (l.take k))) (match b with | true => .fr | false => .pl) h := by
  have e : cutL (dI l) none (some (k : Int)) = dI (l.take k) := by
    simp only [cutL, cLo, cHi, List.drop_zero, dI_len]
    have : clip l.length (k : Int) = min k l.length := rfl
    rw [this, dI_take]
    congr 1
    rw [List.take_eq_take_iff]
    omega
  cases b <;> simp only [sq, cutV, e]
def choM (there : List Int) (p : Int) : W3 × Int := choiceP (leftP p there) (nbM p there) (decide (p - 1 ∈ there))
def chsM (q : List Int) : List (W3 × Int) := mapI (fun t p => choM (q.take t) p) 0 q
theorem c_choices_of [Fn F 2 d2] [Fn F 20 d20] [Fn F 21 d21] [Fn F 22 d22] {q : List Int} {f1 : Fl} (b : Bool) (hl : q.length ≤ 1000) :
    callN o G F W (n + 3) 22 [.d (sq b (dI q)) f1] h = .ok (.tuple ((chsM q).map encC)) .pl h := by
  rw [call_eq 22 rfl]
  dsimp only [b22, Og.exec, ev, evs, tsts, evd, fin, nc, strong, getS, setS, wipeS, padS, svOf, binV, addV, mkI, mkB, strongs, weaks, nearly, steadys, passes, walkV, seqOf, asgT, parS, cmpV, ctOk, boxAt, fnEnd, truD, oi, flG]
  have hs : seqOf (sq b (dI q)) = some (dI q) := by cases b <;> rfl
  have hb : boxAt (.var 0) [some (.d (sq b (dI q))), none, none] = false := rfl
  have key : compL (.cons (.nm 1) (.cons (.nm 2) .nil)) (tsts o G (callN o G F W (n + 2)) .nil) (ev o G (callN o G F W (n + 2)) (.call 21 (.cons (.var 2) (.cons (.slc (.var 0) .nil (.cons (.var 1) .nil)) .nil))) false) [some (.d (sq b (dI q))), none, none] (enumD 0 (q.map PyData.int)) h = .ok (mapI (fun t p => encC (choM (q.take t) p)) 0 q) h := by
    refine comp_enum 0 q fun j x hj => ⟨⟨.pl, rfl⟩, .pl, by decide, by decide, ?_⟩
    dsimp only [Og.exec, ev, evs, tsts, evd, fin, nc, strong, getS, setS, wipeS, padS, svOf, binV, addV, mkI, mkB, strongs, weaks, nearly, steadys, passes, walkV, seqOf, asgT, parS, cmpV, ctOk, boxAt, fnEnd, truD, oi, flG]
    simp only [slice_sq]
    have hq : (q.take (0 + j)).length ≤ 1000 := by simp; omega
    cases b <;> dsimp only [Og.exec, ev, evs, tsts, evd, fin, nc, strong, getS, setS, wipeS, padS, svOf, binV, addV, mkI, mkB, strongs, weaks, nearly, steadys, passes, walkV, seqOf, asgT, parS, cmpV, ctOk, boxAt, fnEnd, truD, oi, flG] <;> exact c_choice_of _ hq
  have e0 : mapI (fun t p => encC (choM (q.take t) p)) 0 q = (chsM q).map encC := (mapI_map _ _ _ _).symm
  have e1 : lenOk ((chsM q).map encC).length = true := lenOk_of (by simp [chsM, mapI_len]; omega)
  rw [e0] at key
  cases b <;> (simp only [sq, bltV] at key ⊢; simp only [dI] at key ⊢; dsimp only [Og.exec, ev, evs, tsts, evd, fin, nc, strong, getS, setS, wipeS, padS, svOf, binV, addV, mkI, mkB, strongs, weaks, nearly, steadys, passes, walkV, seqOf, asgT, parS, cmpV, ctOk, boxAt, fnEnd, truD, oi, flG]; erw [key]; simp only [e1]; rfl)
end
end Lw

end
section
set_option Elab.async false
set_option linter.all false
set_option maxRecDepth 100000
/-! the law's look at the runs -/
namespace Lw
open PySem Og Og.Enc
section
variable {o : Hist → Int → Int} {G : List D} {F : List Og.Def} {W n : Nat} {h : Hist}
def snocIv : IL → Int → IL
  | [], p => [(p, 0)]
  | [(a, k)], p => if a + k + 1 = p then [(a, k + 1)] else [(a, k), (p, 0)]
  | x :: y :: r, p => x :: snocIv (y :: r) p
theorem snocIv_cons (x : Int × Nat) {r : IL} (hr : r ≠ []) (p : Int) : snocIv (x :: r) p = x :: snocIv r p := by
  cases r with
  | nil => exact absurd rfl hr
  | cons y r => simp [snocIv]
theorem ivs_snoc : ∀ (s : List Int) (p : Int), ivs (s ++ [p]) = snocIv (ivs s) p
  | [], p => rfl
  | q :: s, p => by
    have ih := ivs_snoc s p
    simp only [List.cons_append, ivs, ih]
    cases e : ivs s with
    | nil =>
      simp only [snocIv]
      by_cases c : p = q + 1
      · have c' : q + ((0 : Nat) : Int) + 1 = p := by omega
        simp only [c, c', if_true]
      · have c' : ¬ q + ((0 : Nat) : Int) + 1 = p := by omega
        simp only [c, c', if_false]
    | cons x r =>
      obtain ⟨a, k⟩ := x
      cases r with
      | nil =>
        simp only [snocIv]
        by_cases c : a + k + 1 = p
        · simp only [c, if_true]
          by_cases d : a = q + 1
          · have : q + ((k + 1 : Nat) : Int) + 1 = p := by omega
            simp only [d, if_true, snocIv, this]
          · simp only [d, if_false, snocIv, c, if_true]
        · simp only [c, if_false]
          by_cases d : a = q + 1
          · have : ¬ q + ((k + 1 : Nat) : Int) + 1 = p := by omega
            simp only [d, if_true, snocIv, this, if_false]
          · simp only [d, if_false, snocIv, c, if_false]
      | cons y r =>
        simp only [snocIv]
        by_cases d : a = q + 1
        · simp only [d, if_true, snocIv]
        · simp only [d, if_false, snocIv]
theorem snocIv_last (r : IL) (a : Int) (k : Nat) (p : Int) : snocIv (r ++ [(a, k)]) p = if a + k + 1 = p then r ++ [(a, k + 1)] else r ++ [(a, k), (p, 0)] := by
  induction r with
  | nil => simp [snocIv]
  | cons x r ih =>
    rw [List.cons_append, snocIv_cons _ (by simp), ih]
    split <;> rfl
/-- lists of lists of ints -/
def dLL (l : List (List Int)) : List D := l.map fun x => .list (dI x)
theorem sh_LL (l : List (List Int)) : SeqAt.shaped (.list (dLL l)) = true := sh_enc (α := List (List Int)) l (by decide)
theorem segs_app (r t : IL) : segs (r ++ t) = segs r ++ segs t := by simp [segs]
theorem dLL_app (r t : List (List Int)) : dLL (r ++ t) = dLL r ++ dLL t := by simp [dLL]
theorem dLL_len (r : List (List Int)) : (dLL r).length = r.length := by simp [dLL]
theorem ivs_len : ∀ s : List Int, (ivs s).length ≤ s.length
  | [] => by simp [ivs]
  | p :: s => by
    have := ivs_len s
    simp only [ivs]
    split
    · rename_i e
      rw [e] at this
      split <;> simp at this ⊢ <;> omega
    · simp
theorem snoc_cases {α : Type} (l : List α) : l = [] ∨ ∃ i x, l = i ++ [x] := by
  cases e : l.reverse with
  | nil => left; simpa using e
  | cons x r => right; exact ⟨r.reverse, x, by rw [← List.reverse_reverse l, e]; simp⟩
theorem blt_big {n : Nat} (h : n < 16777216) : Nat.blt n 16777216 = true := Nat.blt_eq.mpr h
theorem app_ok {l m : List D} (hl : l.length + m.length ≤ 16777216) : lenOk (l.length + m.length) = true := lenOk_of hl
theorem c_runs [Fn F 9 d9] {there : List Int} {f : Fl} (b : Bool) (hl : there.length ≤ 1000) :
    callN o G F W (n + 1) 9 [.d (sq b (dI there)) f] h = .ok (.list (dLL (segs (iv there)))) .fr h := by
  rw [call_eq 9 rfl]
  dsimp only [b9, Og.exec, ev, evs, tsts, evd, fin, nc, strong, getS, setS, wipeS, padS, svOf, binV, addV, mkI, mkB, strongs, weaks, nearly, steadys, passes, walkV, seqOf, asgT, parS, cmpV, ctOk, boxAt, fnEnd, truD, oi, flG]
  simp only [sorted_sq]
  dsimp only [Og.exec, ev, evs, tsts, evd, fin, nc, strong, getS, setS, wipeS, padS, svOf, binV, addV, mkI, mkB, strongs, weaks, nearly, steadys, passes, walkV, seqOf, asgT, parS, cmpV, ctOk, boxAt, fnEnd, truD, oi, flG]
  have hlen : (srtI there).length ≤ 1000 := by rw [srtI_len]; omega
  have key := for_inv (enc := PyData.int) (tg := .nm 2) (h := h)
    (b := fun σ h => Og.exec o G (callN o G F W n) W (.ifs (.and (.cmp .ne (.var 1) (.lst .nil)) (.cmp .eq (.sub (.sub (.var 1) (.neg (.int 1))) (.neg (.int 1))) (.bin .sub (.var 2) (.int 1)))) (.seq (.popTo 3 1) (.app 1 (.bin .add (.var 3) (.lst (.cons (.var 2) .nil))))) (.app 1 (.lst (.cons (.var 2) .nil)))) σ h)
    (σ := [some (.d (sq b (dI there))), some (.own (.list [])), none, none])
    (fun done σ h' => h' = h ∧ ∃ x y, σ = [some (.d (sq b (dI there))), some (.own (.list (dLL (segs (ivs done))))), x, y]) (l := srtI there) ⟨rfl, none, none, rfl⟩ ?_
  · obtain ⟨σ', h', e1, rfl, x, y, rfl⟩ := key
    erw [e1]
    rfl
  · rintro done p rest σ h' e ⟨rfl, x, y, rfl⟩
    refine ⟨[some (.d (sq b (dI there))), some (.own (.list (dLL (segs (ivs done))))), some (.d (.int p)), y], ?_⟩
    have hd : done.length < 1000 := by rw [e] at hlen; simp at hlen; omega
    have hi := ivs_len done
    rw [ivs_snoc]
    rcases snoc_cases (ivs done) with e0 | ⟨r, ⟨a, k⟩, e0⟩
    · refine ⟨[some (.d (sq b (dI there))), some (.own (.list (dLL (segs [(p, 0)])))), some (.d (.int p)), y], h', rfl, .inl ?_, rfl, some (.d (.int p)), y, by rw [e0]; rfl⟩
      rw [e0]
      dsimp only [Og.exec, ev, evs, tsts, evd, fin, nc, strong, getS, setS, wipeS, padS, svOf, binV, addV, mkI, mkB, strongs, weaks, nearly, steadys, passes, walkV, seqOf, asgT, parS, cmpV, ctOk, boxAt, fnEnd, truD, oi, flG]
      rfl
    · rw [e0] at hi
      rw [e0, snocIv_last]
      have es : dLL (segs (r ++ [(a, k)])) = dLL (segs r) ++ [.list (dI (seg a (k + 1)))] := by simp [segs, dLL]
      have hr : (dLL (segs r)).length < 999 := by simp [dLL, segs] at hi ⊢; omega
      have hk : k + 1 < 1000 := by
        have := congrArg List.length (ivs_flat done)
        rw [e0] at this
        simp [segs, seg_len] at this
        omega
      have en : (dLL (segs r) ++ [PyData.list (dI (seg a (k + 1)))]).isEmpty = false := by simp
      have e2 : dI (seg a (k + 1)) = dI (seg a k) ++ [.int (a + k)] := by rw [seg_snoc]; simp [dI]
      rw [es]
      have hc : ev o G (callN o G F W n) (.and (.cmp .ne (.var 1) (.lst .nil)) (.cmp .eq (.sub (.sub (.var 1) (.neg (.int 1))) (.neg (.int 1))) (.bin .sub (.var 2) (.int 1)))) true [some (.d (sq b (dI there))), some (.own (.list (dLL (segs r) ++ [PyData.list (dI (seg a (k + 1)))]))), some (.d (.int p)), y] h' = .ok (.bool (decide (a + k = p - 1))) .pl h' := by
        (try dsimp only [Og.exec, ev, evs, tsts, evd, fin, nc, strong, getS, setS, wipeS, padS, svOf, binV, addV, mkI, mkB, strongs, weaks, nearly, steadys, passes, walkV, seqOf, asgT, parS, cmpV, ctOk, boxAt, fnEnd, truD, oi, flG, subV])
        simp only [cNe_nil (xs := dLL (segs r) ++ [PyData.list (dI (seg a (k + 1)))]) (by rw [← es]; exact sh_LL _), en]
        (try dsimp only [Og.exec, ev, evs, tsts, evd, fin, nc, strong, getS, setS, wipeS, padS, svOf, binV, addV, mkI, mkB, strongs, weaks, nearly, steadys, passes, walkV, seqOf, asgT, parS, cmpV, ctOk, boxAt, fnEnd, truD, oi, flG, subV])
        simp only [subL_last]
        (try dsimp only [Og.exec, ev, evs, tsts, evd, fin, nc, strong, getS, setS, wipeS, padS, svOf, binV, addV, mkI, mkB, strongs, weaks, nearly, steadys, passes, walkV, seqOf, asgT, parS, cmpV, ctOk, boxAt, fnEnd, truD, oi, flG, subV])
        rw [e2]
        simp only [subL_last]
        exact cEq_int _ _
      by_cases c : a + k + 1 = p
      · have c' : a + k = p - 1 := by omega
        simp only [c, if_true]
        simp only [c', decide_true] at hc
        have e3 : dI (seg a (k + 1)) ++ [PyData.int p] = dI (seg a (k + 2)) := by
          rw [seg_snoc a (k + 1)]
          have : a + ((k + 1 : Nat) : Int) = p := by omega
          simp [dI]; omega
        have e4 : segs (r ++ [(a, k + 1)]) = segs r ++ [seg a (k + 2)] := by simp [segs]
        refine ⟨[some (.d (sq b (dI there))), some (.own (.list (dLL (segs r) ++ [.list (dI (seg a (k + 2)))]))), some (.d (.int p)), some (.d (.list (dI (seg a (k + 1)))))], h', rfl, .inl ?_, rfl, _, _, by rw [e4, dLL_app]; rfl⟩
        rw [Og.exec, hc]
        (try dsimp only [Og.exec, ev, evs, tsts, evd, fin, nc, strong, getS, setS, wipeS, padS, svOf, binV, addV, mkI, mkB, strongs, weaks, nearly, steadys, passes, walkV, seqOf, asgT, parS, cmpV, ctOk, boxAt, fnEnd, truD, oi, flG, subV])
        simp only [lastD_snoc]
        (try dsimp only [Og.exec, ev, evs, tsts, evd, fin, nc, strong, getS, setS, wipeS, padS, svOf, binV, addV, mkI, mkB, strongs, weaks, nearly, steadys, passes, walkV, seqOf, asgT, parS, cmpV, ctOk, boxAt, fnEnd, truD, oi, flG, subV])
        simp only [app_ok (l := dI (seg a (k + 1))) (m := [PyData.int p]) (by simp [dI, seg_len]; omega)]
        (try dsimp only [Og.exec, ev, evs, tsts, evd, fin, nc, strong, getS, setS, wipeS, padS, svOf, binV, addV, mkI, mkB, strongs, weaks, nearly, steadys, passes, walkV, seqOf, asgT, parS, cmpV, ctOk, boxAt, fnEnd, truD, oi, flG, subV])
        simp only [blt_big (show (dLL (segs r)).length < 16777216 by omega), e3]
      · have c' : ¬ a + k = p - 1 := by omega
        simp only [c, if_false]
        simp only [c', decide_false] at hc
        have e4 : segs (r ++ [(a, k), (p, 0)]) = segs r ++ [seg a (k + 1)] ++ [[p]] := by simp [segs, seg]
        refine ⟨[some (.d (sq b (dI there))), some (.own (.list (dLL (segs r) ++ [.list (dI (seg a (k + 1)))] ++ [.list [.int p]]))), some (.d (.int p)), y], h', rfl, .inl ?_, rfl, _, _, by rw [e4, dLL_app, dLL_app]; rfl⟩
        rw [Og.exec, hc]
        (try dsimp only [Og.exec, ev, evs, tsts, evd, fin, nc, strong, getS, setS, wipeS, padS, svOf, binV, addV, mkI, mkB, strongs, weaks, nearly, steadys, passes, walkV, seqOf, asgT, parS, cmpV, ctOk, boxAt, fnEnd, truD, oi, flG, subV])
        simp only [blt_big (show (dLL (segs r) ++ [PyData.list (dI (seg a (k + 1)))]).length < 16777216 by simp; omega)]
end
end Lw

end
section
set_option Elab.async false
set_option linter.all false
set_option maxRecDepth 100000
/-! the law's look: picks, holes -/
namespace Lw
open PySem Og Og.Enc
section
variable {o : Hist → Int → Int} {G : List D} {F : List Og.Def} {W n : Nat} {h : Hist}
theorem near_le1 {p : Int} : ∀ {r : IL} {lo i : Int}, Ivs lo r → p + 1 ≤ lo → (nearB p i r).length ≤ 1
  | [], _, _, _, _ => by simp [nearB]
  | (a, k) :: r, lo, i, ⟨h1, h2⟩, h => by
    unfold nearB
    have := near_big (i := i + 1) h2 (show p + 1 < a + k + 2 by omega)
    split <;> simp [this]
theorem near_le2 {p : Int} : ∀ {r : IL} {lo i : Int}, Ivs lo r → (nearB p i r).length ≤ 2
  | [], _, _, _ => by simp [nearB]
  | (a, k) :: r, lo, i, ⟨h1, h2⟩ => by
    unfold nearB
    split
    · have := near_le1 (p := p) (i := i + 1) h2 (by omega)
      simp; omega
    · exact near_le2 h2
def isNear (p : Int) (q : Int × Nat) : Bool := decide (p - 1 = q.1 + q.2) || decide (p + 1 = q.1)
theorem near_enum (p : Int) : ∀ (i : Nat) (r : IL), ((enumL i r).filter fun q => isNear p q.2).map (fun q => (q.1 : Int)) = (nearB p i r).map (·.1)
  | i, [] => rfl
  | i, (a, k) :: r => by
    have ih := near_enum p (i + 1) r
    simp only [enumL, nearB, List.filter_cons, isNear]
    have e : ((i + 1 : Nat) : Int) = (i : Int) + 1 := by omega
    rw [e] at ih
    by_cases c : p - 1 = a + k ∨ p + 1 = a
    · have c' : (decide (p - 1 = a + (k : Int)) || decide (p + 1 = a)) = true := by simpa using c
      simp only [c, c', if_true, List.map_cons]
      rw [← ih]; rfl
    · have c' : (decide (p - 1 = a + (k : Int)) || decide (p + 1 = a)) = false := by simpa using c
      simp only [c, c', if_false]
      rw [← ih]; rfl
theorem sh_I (l : List Int) : SeqAt.shaped (.list (l.map PyData.int)) = true := sh_lstI l
theorem len_map {α β : Type} {l : List α} {p : α → Bool} {g : α → β} : ((l.filter p).map g).length = (l.filter p).length := by simp
theorem cntL_eq (p : Int) (r : IL) (g : Int × Nat → D) : ((((r.filter fun q => decide (q.1 + q.2 < p)).map g).length : Nat) : Int) = cntL p r := by simp [cntL]
theorem dLL_segs (r : IL) : dLL (segs r) = r.map fun q => .list (dI (seg q.1 (q.2 + 1))) := by simp [dLL, segs]
theorem dI_snoc (a : Int) (k : Nat) : dI (seg a (k + 1)) = dI (seg a k) ++ [.int (a + k)] := by rw [seg_snoc]; simp [dI]
theorem c_pick_of [Fn F 9 d9] [Fn F 27 d27] {p : Int} {there : List Int} {f1 f2 : Fl} (b : Bool) (hl : there.length ≤ 1000) (nd : there.Nodup) (np : p ∉ there) :
    callN o G F W (n + 2) 27 [.d (.int p) f1, .d (sq b (dI there)) f2] h = .ok (encC (chM p 0 (iv there))) .pl h := by
  obtain ⟨lo, hlo⟩ := low there
  have hv := iv_ok nd hlo
  have np2 : p ∉ fl (iv there) := fun q => np (mem_iv.mp q)
  rw [pick_eq 0 hv np2]
  have hi : (iv there).length ≤ 1000 := Nat.le_trans (ivs_len _) (by rw [srtI_len]; exact hl)
  have h2 := near_le2 (p := p) (i := 0) hv
  have hr : callN o G F W (n + 1) 9 [.d (sq b (dI there)) .pl] h = .ok (.list (dLL (segs (iv there)))) .fr h := c_runs b hl
  have hat := fun x b => near_at (p := p) (r := iv there) (i := 0) (x := x) (b := b)
  generalize iv there = r at hi h2 hat hr
  rw [call_eq 27 rfl]
  refine fn_ret ?_
  refine x_asg (x := .list (dLL (segs r))) (f := .fr) (h' := h) ?_ rfl ?_
  · dsimp only [Og.exec, ev, evs, tsts, evd, fin, nc, strong, getS, setS, wipeS, padS, svOf, binV, addV, mkI, mkB, strongs, weaks, nearly, steadys, passes, walkV, seqOf, asgT, parS, cmpV, ctOk, boxAt, fnEnd, truD, oi, flG]; simp only [hr]
  dsimp only [padS, svOf, setS]
  refine x_asg (x := .int (cntL p r)) (f := .pl) (h' := h) ?_ rfl ?_
  · refine v_blt1 (x := .list ((r.filter fun q => decide (q.1 + q.2 < p)).map fun q => .list (dI (seg q.1 (q.2 + 1))))) (f := .fr) rfl ?_ (by decide) ?_
    · refine v_comp (as := [.d (.list (dLL (segs r))) .pl]) (l := [.list (dLL (segs r))]) (ys := dLL (segs r)) (h' := h) rfl rfl rfl ?_ (by rw [List.length_map]; exact Nat.le_trans (List.length_filter_le _ _) (by omega))
      rw [dLL_segs]
      refine comp_map fun q hq => ⟨_, rfl, ⟨.pl, ?_⟩, fun _ => ⟨.pl, by decide, by decide, rfl⟩⟩
      dsimp only [Og.exec, ev, evs, tsts, evd, fin, nc, strong, getS, setS, wipeS, padS, svOf, binV, addV, mkI, mkB, strongs, weaks, nearly, steadys, passes, walkV, seqOf, asgT, parS, cmpV, ctOk, boxAt, fnEnd, truD, oi, flG, subV]
      rw [dI_snoc]
      simp only [subL_last]
      (try dsimp only [Og.exec, ev, evs, tsts, evd, fin, nc, strong, getS, setS, wipeS, padS, svOf, binV, addV, mkI, mkB, strongs, weaks, nearly, steadys, passes, walkV, seqOf, asgT, parS, cmpV, ctOk, boxAt, fnEnd, truD, oi, flG, subV])
      simp only [cLt_int]
      cases decide (q.1 + q.2 < p) <;> rfl
    · simp only [bltV, mkI, cntL_eq]
  dsimp only [setS]
  refine x_asg (x := .list ((((enumL 0 r).filter fun q => isNear p q.2).map (fun q => (q.1 : Int))).map PyData.int)) (f := .fr) (h' := h) ?_ rfl ?_
  · refine v_comp (as := [.d (.list (dLL (segs r))) .pl]) (l := [.list (dLL (segs r))]) (ys := (enumL 0 r).map fun q => .tuple [.int (q.1 : Int), .list (dI (seg q.2.1 (q.2.2 + 1)))]) (h' := h) rfl rfl (by rw [dLL_segs]; exact congrArg (fun z => RI.ok z h) (enumD_eq (fun q : Int × Nat => PyData.list (dI (seg q.1 (q.2 + 1)))) 0 r)) ?_ (by rw [List.length_map, List.length_map]; exact Nat.le_trans (List.length_filter_le _ _) (by rw [enumL_len]; omega))
    rw [List.map_map]
    refine comp_map fun q hq => ⟨_, rfl, ⟨.pl, ?_⟩, fun _ => ⟨.pl, by decide, by decide, rfl⟩⟩
    obtain ⟨at_, a, k⟩ := q
    dsimp only [Og.exec, ev, evs, tsts, evd, fin, nc, strong, getS, setS, wipeS, padS, svOf, binV, addV, mkI, mkB, strongs, weaks, nearly, steadys, passes, walkV, seqOf, asgT, parS, cmpV, ctOk, boxAt, fnEnd, truD, oi, flG, subV, isNear]
    rw [dI_snoc]
    simp only [subL_last]
    (try dsimp only [Og.exec, ev, evs, tsts, evd, fin, nc, strong, getS, setS, wipeS, padS, svOf, binV, addV, mkI, mkB, strongs, weaks, nearly, steadys, passes, walkV, seqOf, asgT, parS, cmpV, ctOk, boxAt, fnEnd, truD, oi, flG, subV])
    simp only [cEq_int]
    cases decide (p - 1 = a + k)
    · dsimp only [Og.exec, ev, evs, tsts, evd, fin, nc, strong, getS, setS, wipeS, padS, svOf, binV, addV, mkI, mkB, strongs, weaks, nearly, steadys, passes, walkV, seqOf, asgT, parS, cmpV, ctOk, boxAt, fnEnd, truD, oi, flG]
      rw [← dI_snoc]
      simp only [seg, dI, List.map_cons, subL_zero]
      (try dsimp only [Og.exec, ev, evs, tsts, evd, fin, nc, strong, getS, setS, wipeS, padS, svOf, binV, addV, mkI, mkB, strongs, weaks, nearly, steadys, passes, walkV, seqOf, asgT, parS, cmpV, ctOk, boxAt, fnEnd, truD, oi, flG, subV])
      simp only [cEq_int]
      cases decide (p + 1 = a) <;> rfl
    · rfl
  dsimp only [setS]
  have en := near_enum p 0 r
  rw [en]
  simp only [show ((0 : Nat) : Int) = 0 from rfl, Int.zero_add]
  generalize nearB p 0 r = nb at h2 hat
  match nb, h2, hat with
  | [], _, _ =>
    refine x_sif1 (f := .pl) (h' := h) ?_ ?_
    · rfl
    · rfl
  | [(x, b0)], _, hat =>
    obtain ⟨j, e1, a, k, e2, e3⟩ := hat x b0 (by simp)
    refine x_sif0 (f := .pl) (h' := h) ?_ ?_
    · dsimp only [Og.exec, ev, evs, tsts, evd, fin, nc, strong, getS, setS, wipeS, padS, svOf, binV, addV, mkI, mkB, strongs, weaks, nearly, steadys, passes, walkV, seqOf, asgT, parS, cmpV, ctOk, boxAt, fnEnd, truD, oi, flG]
      rw [cEq_nil (sh_I _)]; rfl
    refine x_sif0 (f := .pl) (h' := h) ?_ ?_
    · dsimp only [Og.exec, ev, evs, tsts, evd, fin, nc, strong, getS, setS, wipeS, padS, svOf, binV, addV, mkI, mkB, strongs, weaks, nearly, steadys, passes, walkV, seqOf, asgT, parS, cmpV, ctOk, boxAt, fnEnd, truD, oi, flG, bltV, List.map, List.length]
      rw [cEq_int]; rfl
    refine x_ret (f := .pl) ?_ rfl
    dsimp only [Og.exec, ev, evs, tsts, evd, fin, nc, strong, getS, setS, wipeS, padS, svOf, binV, addV, mkI, mkB, strongs, weaks, nearly, steadys, passes, walkV, seqOf, asgT, parS, cmpV, ctOk, boxAt, fnEnd, truD, oi, flG, subV, List.map, pickF]
    have e4 : (dLL (segs r))[j]? = some (.list (dI (seg a (k + 1)))) := by rw [dLL_segs, List.getElem?_map, e2]; rfl
    have e5 : x = (j : Int) := by omega
    simp only [subL_zero]
    (try dsimp only [Og.exec, ev, evs, tsts, evd, fin, nc, strong, getS, setS, wipeS, padS, svOf, binV, addV, mkI, mkB, strongs, weaks, nearly, steadys, passes, walkV, seqOf, asgT, parS, cmpV, ctOk, boxAt, fnEnd, truD, oi, flG, subV])
    rw [e5]
    simp only [subL_nat e4]
    (try dsimp only [Og.exec, ev, evs, tsts, evd, fin, nc, strong, getS, setS, wipeS, padS, svOf, binV, addV, mkI, mkB, strongs, weaks, nearly, steadys, passes, walkV, seqOf, asgT, parS, cmpV, ctOk, boxAt, fnEnd, truD, oi, flG, subV])
    rw [dI_snoc]
    simp only [subL_last]
    (try dsimp only [Og.exec, ev, evs, tsts, evd, fin, nc, strong, getS, setS, wipeS, padS, svOf, binV, addV, mkI, mkB, strongs, weaks, nearly, steadys, passes, walkV, seqOf, asgT, parS, cmpV, ctOk, boxAt, fnEnd, truD, oi, flG, subV])
    simp only [cLt_int, mul2]
    (try dsimp only [Og.exec, ev, evs, tsts, evd, fin, nc, strong, getS, setS, wipeS, padS, svOf, binV, addV, mkI, mkB, strongs, weaks, nearly, steadys, passes, walkV, seqOf, asgT, parS, cmpV, ctOk, boxAt, fnEnd, truD, oi, flG, subV])
    simp only [bltV]
    rw [← e3]
    cases b0 <;> rfl
  | (x, b0) :: (y, b1) :: rest, h2, hat =>
    have er : rest = [] := by cases rest with
      | nil => rfl
      | cons z t => simp at h2
    subst er
    refine x_sif0 (f := .pl) (h' := h) ?_ ?_
    · dsimp only [Og.exec, ev, evs, tsts, evd, fin, nc, strong, getS, setS, wipeS, padS, svOf, binV, addV, mkI, mkB, strongs, weaks, nearly, steadys, passes, walkV, seqOf, asgT, parS, cmpV, ctOk, boxAt, fnEnd, truD, oi, flG]
      rw [cEq_nil (sh_I _)]; rfl
    refine x_sif1 (f := .pl) (h' := h) ?_ ?_
    · dsimp only [Og.exec, ev, evs, tsts, evd, fin, nc, strong, getS, setS, wipeS, padS, svOf, binV, addV, mkI, mkB, strongs, weaks, nearly, steadys, passes, walkV, seqOf, asgT, parS, cmpV, ctOk, boxAt, fnEnd, truD, oi, flG, bltV, List.map, List.length]
      rw [cEq_int]; rfl
    · refine x_ret (f := .pl) ?_ rfl
      dsimp only [Og.exec, ev, evs, tsts, evd, fin, nc, strong, getS, setS, wipeS, padS, svOf, binV, addV, mkI, mkB, strongs, weaks, nearly, steadys, passes, walkV, seqOf, asgT, parS, cmpV, ctOk, boxAt, fnEnd, truD, oi, flG, subV, List.map, pickF]
      simp only [subL_zero]
      (try dsimp only [Og.exec, ev, evs, tsts, evd, fin, nc, strong, getS, setS, wipeS, padS, svOf, binV, addV, mkI, mkB, strongs, weaks, nearly, steadys, passes, walkV, seqOf, asgT, parS, cmpV, ctOk, boxAt, fnEnd, truD, oi, flG, subV])
      try rfl
theorem not_take {α : Type} {q : List α} (nd : q.Nodup) {t : Nat} {p : α} (e : q[t]? = some p) : p ∉ q.take t := by
  obtain ⟨ht, e⟩ := List.getElem?_eq_some_iff.mp e
  intro m
  obtain ⟨j, hj, e2⟩ := List.mem_iff_getElem.mp m
  simp at hj
  rw [List.getElem_take] at e2
  have := (List.getElem_inj (h₀ := by omega) (h₁ := ht) nd).mp (e2.trans e.symm)
  omega
theorem nodup_take {α : Type} {q : List α} (nd : q.Nodup) (t : Nat) : (q.take t).Nodup := nd.sublist (List.take_sublist _ _)
theorem c_picks [Fn F 9 d9] [Fn F 27 d27] [Fn F 28 d28] {q : List Int} {f1 : Fl} (hl : q.length ≤ 1000) (nd : q.Nodup) :
    callN o G F W (n + 3) 28 [.d (.tuple (dI q)) f1] h = .ok (.tuple ((picksM q).map encC)) .pl h := by
  rw [call_eq 28 rfl]
  refine fn_ret (x_ret (f := .pl) ?_ rfl)
  dsimp only [padS, svOf]
  refine v_blt1 (x := .list ((picksM q).map encC)) (f := .fr) rfl ?_ (by decide) rfl
  have e0 : (picksM q).map encC = ((enumL 0 q).filter fun _ => true).map fun x => encC (chM x.2 0 (iv (q.take x.1))) := by
    rw [List.filter_eq_self.mpr (by simp), picksM, List.map_map]; rfl
  refine v_comp (as := [.d (.tuple (dI q)) .pl]) (l := [.tuple (dI q)]) (ys := (enumL 0 q).map fun q => .tuple [.int (q.1 : Int), .int q.2]) (h' := h) rfl rfl ?_ ?_ ?_
  · exact congrArg (fun z => RI.ok z h) (enumD_eq PyData.int 0 q)
  · rw [e0]
    refine comp_map fun x hx => ⟨_, rfl, ⟨.pl, rfl⟩, fun _ => ⟨.pl, by decide, by decide, ?_⟩⟩
    obtain ⟨t, p⟩ := x
    have hm := (mem_enumL.mp hx).2
    rw [Nat.sub_zero] at hm
    refine v_call (as := [.d (.int p) .pl, .d (.tuple (dI (q.take t))) .pl]) (h' := h) ?_ rfl ?_
    · have hs := slice_sq (h := h) false q t
      dsimp only [sq] at hs
      dsimp only [Og.exec, ev, evs, tsts, evd, fin, nc, strong, getS, setS, wipeS, padS, svOf, binV, addV, mkI, mkB, strongs, weaks, nearly, steadys, passes, walkV, seqOf, asgT, parS, cmpV, ctOk, boxAt, fnEnd, truD, oi, flG]
      simp only [hs]
    · exact c_pick_of false (by simp; omega) (nodup_take nd t) (not_take nd hm)
  · rw [List.length_map, picksM, List.length_map, enumL_len]; omega
theorem c_holes [Fn F 9 d9] [Fn F 29 d29] {c : Int} {q : List Int} {f1 f2 : Fl} (hl : q.length ≤ 1000) :
    callN o G F W (n + 2) 29 [.d (.int c) f1, .d (.tuple (dI q)) f2] h = .ok (.tuple (dI (gapsL c (iv q)))) .pl h := by
  have hr : callN o G F W (n + 1) 9 [.d (.tuple (dI q)) .pl] h = .ok (.list (dLL (segs (iv q)))) .fr h := c_runs false hl
  have hi : (iv q).length ≤ 1000 := Nat.le_trans (ivs_len _) (by rw [srtI_len]; exact hl)
  generalize iv q = r at hr hi
  rw [call_eq 29 rfl]
  refine fn_ret ?_
  dsimp only [padS, svOf]
  refine x_par (as := [.d (.list (dLL (segs r))) .fr, .d (.list []) .fr, .d (.int 0) .pl]) (h' := h) ?_ rfl ?_
  · dsimp only [Og.exec, ev, evs, tsts, evd, fin, nc, strong, getS, setS, wipeS, padS, svOf, binV, addV, mkI, mkB, strongs, weaks, nearly, steadys, passes, walkV, seqOf, asgT, parS, cmpV, ctOk, boxAt, fnEnd, truD, oi, flG]; simp only [hr]
  dsimp only [setS]
  refine x_for (as := [.d (.list (dLL (segs r))) .pl]) (l := [.list (dLL (segs r))]) (ys := r.map fun q => .list (dI (seg q.1 (q.2 + 1)))) (h' := h) rfl rfl (by rw [dLL_segs]; rfl) ?_
  obtain ⟨σ', h', e1, rfl, x, rfl⟩ := for_inv (h := h) (enc := fun q : Int × Nat => PyData.list (dI (seg q.1 (q.2 + 1)))) (tg := .nm 2) (b := exec o G (callN o G F W (n + 1)) W (.seq (.app 4 (.bin .sub (.sub (.var 2) (.int 0)) (.var 5))) (.asg (.nm 5) (.bin .add (.sub (.var 2) (.neg (.int 1))) (.int 1)))))
    (σ := [some (.d (.int c)), some (.d (.tuple (dI q))), none, some (.d (.list (dLL (segs r)))), some (.own (.list [])), some (.d (.int 0))])
    (fun done σ h' => h' = h ∧ ∃ x, σ = [some (.d (.int c)), some (.d (.tuple (dI q))), x, some (.d (.list (dLL (segs r)))), some (.own (.list (dI (hol done).1))), some (.d (.int (hol done).2))]) (l := r) ⟨rfl, none, rfl⟩ (by
      rintro done ⟨a, k⟩ rest σ h' e ⟨rfl, x, rfl⟩
      refine ⟨_, [some (.d (.int c)), some (.d (.tuple (dI q))), some (.d (.list (dI (seg a (k + 1))))), some (.d (.list (dLL (segs r)))), some (.own (.list (dI (hol done).1 ++ [.int (a - (hol done).2)]))), some (.d (.int (a + k + 1)))], h', rfl, .inl ?_, rfl, some (.d (.list (dI (seg a (k + 1))))), by rw [hol_snoc]; simp [dI]⟩
      dsimp only [asgT, setS]
      refine x_app (x := .int (a - (hol done).2)) (f := .pl) (h' := h') rfl ?_ rfl ?_ ?_
      · dsimp only [Og.exec, ev, evs, tsts, evd, fin, nc, strong, getS, setS, wipeS, padS, svOf, binV, addV, mkI, mkB, strongs, weaks, nearly, steadys, passes, walkV, seqOf, asgT, parS, cmpV, ctOk, boxAt, fnEnd, truD, oi, flG, subV]
        simp only [seg, dI, List.map_cons, subL_zero]
      · have : done.length ≤ r.length := by rw [e]; simp
        rw [dI_len, hol_len]; omega
      · dsimp only [setS]
        refine st_asg (x := .int (a + k + 1)) (f := .pl) ?_ rfl
        dsimp only [Og.exec, ev, evs, tsts, evd, fin, nc, strong, getS, setS, wipeS, padS, svOf, binV, addV, mkI, mkB, strongs, weaks, nearly, steadys, passes, walkV, seqOf, asgT, parS, cmpV, ctOk, boxAt, fnEnd, truD, oi, flG, subV]
        rw [dI_snoc]
        simp only [subL_last])
  refine ⟨_, _, e1, ?_⟩
  refine x_ret (f := .pl) ?_ rfl
  refine v_blt1 (x := .list (dI (gapsL c r))) (f := .fr) rfl ?_ (by decide) rfl
  dsimp only [Og.exec, ev, evs, tsts, evd, fin, nc, strong, getS, setS, wipeS, padS, svOf, binV, addV, mkI, mkB, strongs, weaks, nearly, steadys, passes, walkV, seqOf, asgT, parS, cmpV, ctOk, boxAt, fnEnd, truD, oi, flG]
  simp only [app_ok (l := dI (hol r).1) (m := [PyData.int (c - (hol r).2)]) (by rw [dI_len, hol_len]; simp; omega)]
  simp [gapsL, dI]
theorem c_gaps_of [Fn F 23 d23] {c : Int} {q : List Int} {f1 f2 : Fl} (b : Bool) (nd : q.Nodup) (h0 : ∀ x ∈ q, 0 ≤ x ∧ x < c) (c0 : 0 ≤ c) (c1 : c ≤ 1000) :
    callN o G F W (n + 1) 23 [.d (.int c) f1, .d (sq b (dI q)) f2] h = .ok (.tuple (dI (gapsL c (iv q)))) .pl h := by
  have hv := iv_ok nd (lo := 0) fun x hx => (h0 x hx).1
  rw [call_eq 23 rfl]
  refine fn_ret ?_
  dsimp only [padS, svOf]
  refine x_par (as := [.d (.list []) .fr, .d (.int 0) .pl]) (h' := h) rfl rfl ?_
  dsimp only [setS]
  refine x_for (as := [.d (.int c) .pl]) (l := [.int c]) (ys := (seg 0 c.toNat).map PyData.int) (h' := h) rfl rfl (by simp only [walkV, wide_of (show -4611686018427387904 ≤ c by omega) (by omega)]; rw [rng_eq]; rfl) ?_
  obtain ⟨σ', h', e1, rfl, x, fd, gap, g1, g2, rfl⟩ := for_inv (h := h) (enc := PyData.int) (tg := .nm 2) (b := exec o G (callN o G F W n) W (.ifs (.cmp .nin (.var 2) (.var 1)) (.aug 4 .add (.int 1)) (.ifs (.cmp .nin (.bin .sub (.var 2) (.int 1)) (.var 1)) (.seq (.app 3 (.var 4)) (.asg (.nm 4) (.int 0))) .skip)))
    (σ := [some (.d (.int c)), some (.d (sq b (dI q))), none, some (.own (.list [])), some (.d (.int 0))])
    (fun done σ h' => h' = h ∧ ∃ x fd gap, GP (iv q) (done.length : Nat) fd gap ∧ fd.length ≤ done.length ∧ σ = [some (.d (.int c)), some (.d (sq b (dI q))), x, some (.own (.list (dI fd))), some (.d (.int gap))]) (l := seg 0 c.toNat) ⟨rfl, none, [], 0, gp_start hv, by simp, rfl⟩ (by
      rintro done p rest σ h' e ⟨rfl, x, fd, gap, g1, g2, rfl⟩
      have ep : p = (done.length : Nat) := by
        have h1 : (seg 0 c.toNat)[done.length]? = some p := by rw [e]; simp
        have h2 : done.length < c.toNat := by
          have := congrArg List.length e
          rw [seg_len] at this; simp at this; omega
        rw [seg_get _ _ _ h2] at h1
        simp at h1; omega
      have hdl : done.length < 1000 := by
        have := congrArg List.length e
        rw [seg_len] at this; simp at this; omega
      rw [← ep] at g1
      obtain ⟨s1, s2, s3⟩ := gp_step hv (by omega) g1
      simp only [mem_iv] at s1 s2 s3
      have ep2 : (((done ++ [p]).length : Nat) : Int) = p + 1 := by simp; omega
      simp only [ep2]
      by_cases m1 : p ∈ q
      · by_cases m2 : p - 1 ∈ q
        · refine ⟨_, [some (.d (.int c)), some (.d (sq b (dI q))), some (.d (.int p)), some (.own (.list (dI fd))), some (.d (.int gap))], h', rfl, .inl ?_, rfl, some (.d (.int p)), fd, gap, s3 m1 m2, by simp; omega, rfl⟩
          dsimp only [asgT, setS]
          refine x_iff (f := .pl) (h' := h') ?_ ?_
          · dsimp only [Og.exec, ev, evs, tsts, evd, fin, nc, strong, getS, setS, wipeS, padS, svOf, binV, addV, mkI, mkB, strongs, weaks, nearly, steadys, passes, walkV, seqOf, asgT, parS, cmpV, ctOk, boxAt, fnEnd, truD, oi, flG]; rw [cIn_sq]; simp [m1]
          refine x_iff (f := .pl) (h' := h') ?_ rfl
          dsimp only [Og.exec, ev, evs, tsts, evd, fin, nc, strong, getS, setS, wipeS, padS, svOf, binV, addV, mkI, mkB, strongs, weaks, nearly, steadys, passes, walkV, seqOf, asgT, parS, cmpV, ctOk, boxAt, fnEnd, truD, oi, flG]; rw [cIn_sq]; simp [m2]
        · refine ⟨_, [some (.d (.int c)), some (.d (sq b (dI q))), some (.d (.int p)), some (.own (.list (dI fd ++ [.int gap]))), some (.d (.int 0))], h', rfl, .inl ?_, rfl, some (.d (.int p)), fd ++ [gap], 0, s2 m1 m2, by simp; omega, by simp [dI]⟩
          dsimp only [asgT, setS]
          refine x_iff (f := .pl) (h' := h') ?_ ?_
          · dsimp only [Og.exec, ev, evs, tsts, evd, fin, nc, strong, getS, setS, wipeS, padS, svOf, binV, addV, mkI, mkB, strongs, weaks, nearly, steadys, passes, walkV, seqOf, asgT, parS, cmpV, ctOk, boxAt, fnEnd, truD, oi, flG]; rw [cIn_sq]; simp [m1]
          refine x_ift (f := .pl) (h' := h') ?_ ?_
          · dsimp only [Og.exec, ev, evs, tsts, evd, fin, nc, strong, getS, setS, wipeS, padS, svOf, binV, addV, mkI, mkB, strongs, weaks, nearly, steadys, passes, walkV, seqOf, asgT, parS, cmpV, ctOk, boxAt, fnEnd, truD, oi, flG]; rw [cIn_sq]; simp [m2]
          refine x_app (x := .int gap) (f := .pl) (h' := h') rfl rfl rfl (by rw [dI_len]; omega) rfl
      · refine ⟨_, [some (.d (.int c)), some (.d (sq b (dI q))), some (.d (.int p)), some (.own (.list (dI fd))), some (.d (.int (gap + 1)))], h', rfl, .inl ?_, rfl, some (.d (.int p)), fd, gap + 1, s1 m1, by simp; omega, rfl⟩
        dsimp only [asgT, setS]
        refine x_ift (f := .pl) (h' := h') ?_ rfl
        dsimp only [Og.exec, ev, evs, tsts, evd, fin, nc, strong, getS, setS, wipeS, padS, svOf, binV, addV, mkI, mkB, strongs, weaks, nearly, steadys, passes, walkV, seqOf, asgT, parS, cmpV, ctOk, boxAt, fnEnd, truD, oi, flG]; rw [cIn_sq]; simp [m1])
  refine ⟨_, _, e1, ?_⟩
  rw [seg_len] at g1 g2
  have ec : ((c.toNat : Nat) : Int) = c := by omega
  rw [ec] at g1
  have ge := gp_end hv (n := c) (fun x hx => (h0 x (mem_iv.mp hx)).2) c0 g1
  refine x_ret (f := .pl) ?_ rfl
  refine v_blt1 (x := .list (dI (gapsL c (iv q)))) (f := .fr) rfl ?_ (by decide) rfl
  dsimp only [Og.exec, ev, evs, tsts, evd, fin, nc, strong, getS, setS, wipeS, padS, svOf, binV, addV, mkI, mkB, strongs, weaks, nearly, steadys, passes, walkV, seqOf, asgT, parS, cmpV, ctOk, boxAt, fnEnd, truD, oi, flG]
  simp only [app_ok (l := dI fd) (m := [PyData.int gap]) (by rw [dI_len]; simp; omega)]
  rw [← ge]; simp [dI]
end
end Lw

end
section
set_option Elab.async false
set_option linter.all false
set_option maxRecDepth 100000
/-! choices by both looks; rows from choices -/
namespace Lw
open PySem Og Og.Enc
section
variable {o : Hist → Int → Int} {G : List D} {F : List Og.Def} {W n : Nat} {h : Hist}
/-! ### both looks -/
theorem heads_of : ∀ {s : List Int}, Asc s → (s.filter fun p => !decide (p - 1 ∈ s)) = (ivs s).map (·.1)
  | [], _ => rfl
  | p :: s, h => by
    obtain ⟨h1, h2⟩ := List.pairwise_cons.mp h
    have ih := heads_of h2
    have np : p - 1 ∉ p :: s := fun m => by
      rcases List.mem_cons.mp m with e | e
      · omega
      · have := h1 _ e; omega
    rw [List.filter_cons, if_pos (by simp [np])]
    have e2 : (s.filter fun q => !decide (q - 1 ∈ p :: s)) = ((ivs s).map (·.1)).filter fun q => !decide (q = p + 1) := by
      rw [← ih, List.filter_filter]
      apply List.filter_congr
      intro q hq
      have : (q - 1 = p) ↔ (q = p + 1) := by omega
      simp only [List.mem_cons, this]
      by_cases c1 : q = p + 1 <;> by_cases c2 : q - 1 ∈ s <;> simp [c1, c2]
    rw [e2]
    have hv := ivs_ok (lo := p + 1) h2 fun x hx => by have := h1 x hx; omega
    simp only [ivs]
    cases e : ivs s with
    | nil => rfl
    | cons x r =>
      obtain ⟨a, k⟩ := x
      rw [e] at hv
      have hr : ∀ {r : IL} {lo : Int}, Ivs lo r → p + 1 < lo → ((r.map (·.1)).filter fun q => !decide (q = p + 1)) = r.map (·.1) := by
        intro r
        induction r with
        | nil => intros; rfl
        | cons y r ih =>
          intro lo hv hl
          have h3 := hv.1
          rw [List.map_cons, List.filter_cons, if_pos (by simp; omega), ih hv.2 (by omega)]
      have h3 := hv.1
      rw [List.map_cons, List.filter_cons, hr hv.2 (by omega)]
      by_cases c : a = p + 1
      · simp [c]
      · simp [c]
theorem starts_eq {there : List Int} (nd : there.Nodup) : stP there = Og.stM (iv there) := by
  unfold stP Og.stM iv
  rw [← heads_of (srt_asc nd)]
  apply List.filter_congr
  intro p hp
  simp only [mem_srtI']
theorem cho_eq {there : List Int} {p : Int} (nd : there.Nodup) (np : p ∉ there) : choM there p = chM p 0 (iv there) := by
  obtain ⟨lo, hlo⟩ := low there
  rw [choice_eq 0 (iv_ok nd hlo) (fun q => np (mem_iv.mp q))]
  unfold choM leftP leftM nbM cntF
  rw [starts_eq nd]
  simp only [mem_iv, Int.zero_add]
theorem mapI_enum {α β : Type} (g : Nat → α → β) : ∀ (i : Nat) (l : List α), mapI g i l = (enumL i l).map fun x => g x.1 x.2
  | _, [] => rfl
  | i, x :: l => by simp only [mapI, enumL, List.map_cons, mapI_enum g (i + 1) l]
theorem chs_eq {q : List Int} (nd : q.Nodup) : chsM q = picksM q := by
  unfold chsM picksM
  rw [mapI_enum]
  apply List.map_congr_left
  intro x hx
  obtain ⟨t, p⟩ := x
  have hm := (mem_enumL.mp hx).2
  rw [Nat.sub_zero] at hm
  exact cho_eq (nodup_take nd t) (not_take nd hm)
/-! ### grown -/
theorem cut_to {xs : List D} {k : Int} (h0 : 0 ≤ k) : cutV (.list xs) none (some k) h = .ok (.list (xs.take k.toNat)) .fr h := by
  cases k with
  | ofNat m =>
    simp only [cutV, cutL, cLo, cHi, clip, List.drop_zero]
    congr 2
    rw [List.take_eq_take_iff]
    show min (min m xs.length) xs.length = min (Int.ofNat m).toNat xs.length
    simp
  | negSucc m => omega
theorem cut_from {xs : List D} {k : Int} (h0 : 0 ≤ k) : cutV (.list xs) (some k) none h = .ok (.list (xs.drop k.toNat)) .fr h := by
  cases k with
  | ofNat m =>
    simp only [cutV, cutL, cLo, cHi, clip, List.take_length]
    congr 2
    show xs.drop (min m xs.length) = xs.drop (Int.ofNat m).toNat
    simp only [Int.ofNat_eq_natCast, Int.toNat_natCast]
    rcases Nat.le_total m xs.length with e | e
    · rw [Nat.min_eq_left e]
    · rw [Nat.min_eq_right e, List.drop_eq_nil_of_le e, List.drop_eq_nil_of_le (Nat.le_refl _)]
  | negSucc m => omega
theorem addL {a b : List D} (hl : a.length + b.length ≤ 16777216) : addV (.list a) (.list b) h = .ok (.list (a ++ b)) .fr h := by
  simp only [addV, lenOk_of hl]
theorem sub_LL {g : List (List Int)} {k : Int} (h0 : 0 ≤ k) (h1 : k < g.length) : subV (.list (dLL g)) (.int k) h = .ok (.list (dI (g.getD k.toNat []))) .pl h := by
  have e : k = (k.toNat : Int) := by omega
  have h2 : k.toNat < g.length := by omega
  have : (dLL g)[k.toNat]? = some (.list (dI (g.getD k.toNat []))) := by
    simp [dLL, List.getElem?_eq_getElem h2]
  conv => lhs; rw [e]
  exact subL_nat this
theorem add_int {a b : Int} : addV (.int a) (.int b) h = .ok (.int (a + b)) .pl h := rfl
theorem dLL_take (g : List (List Int)) (k : Nat) : (dLL g).take k = dLL (g.take k) := by simp [dLL, List.map_take]
theorem dLL_drop (g : List (List Int)) (k : Nat) : (dLL g).drop k = dLL (g.drop k) := by simp [dLL, List.map_drop]
theorem getD_le {g : List (List Int)} {m : Nat} (hg : g.flatten.length ≤ m) (k : Nat) : (g.getD k []).length ≤ m := by
  rcases Nat.lt_or_ge k g.length with e | e
  · have : g.getD k [] ∈ g := by simp [e]
    have h2 := List.length_flatten (L := g)
    have : (g.getD k []).length ≤ g.flatten.length := by
      rw [List.length_flatten]
      have hm : (g.getD k []).length ∈ g.map List.length := List.mem_map.mpr ⟨_, this, rfl⟩
      have : ∀ (l : List Nat) (x : Nat), x ∈ l → x ≤ l.sum := by
        intro l
        induction l with
        | nil => intro x hx; simp at hx
        | cons y l ih =>
          intro x hx
          rcases List.mem_cons.mp hx with rfl | hx
          · simp
          · have := ih x hx; simp; omega
      exact this _ _ hm
    omega
  · simp [e]
/-- a choice as a tuple or a list -/
def encB (b : Bool) (c : W3 × Int) : D := sq b [.str (wS c.1), .int c.2]
theorem c_grown [Fn F 24 d24] {g : List (List Int)} {t : Int} {c : W3 × Int} {f1 f2 f3 : Fl} (b : Bool) (v : validC c g.length) (hg : g.flatten.length ≤ 1000) (hl : g.length ≤ 1000) :
    callN o G F W (n + 1) 24 [.d (.list (dLL g)) f1, .d (.int t) f2, .d (encB b c) f3] h = .ok (.list (dLL (grownM g t c))) .fr h := by
  obtain ⟨w, k⟩ := c
  obtain ⟨h0, h1⟩ := v
  simp only at h0 h1
  rw [call_eq 24 rfl]
  refine fn_ret ?_
  dsimp only [padS, svOf]
  refine x_asgT (x := encB b (w, k)) (f := .pl) (h' := h) rfl rfl (σ' := [some (.d (.list (dLL g))), some (.d (.int t)), some (.d (encB b (w, k))), none, none, some (.d (.str (wS w))), some (.d (.int k))]) (by cases b <;> rfl) ?_
  cases w with
  | new =>
    refine x_sif1 (f := .pl) (h' := h) ?_ ?_
    · dsimp only [Og.exec, ev, evs, tsts, evd, fin, nc, strong, getS, setS, wipeS, padS, svOf, binV, addV, mkI, mkB, strongs, weaks, nearly, steadys, passes, walkV, seqOf, asgT, parS, cmpV, ctOk, boxAt, fnEnd, truD, oi, flG]; simp only [s_new, cEq_w]; rfl
    refine x_ret ?_ rfl
    dsimp only [Og.exec, ev, evs, tsts, evd, fin, nc, strong, getS, setS, wipeS, padS, svOf, binV, mkI, mkB, strongs, weaks, nearly, steadys, passes, walkV, seqOf, asgT, parS, cmpV, ctOk, boxAt, fnEnd, truD, oi, flG]
    simp only [cut_to h0, cut_from h0]
    (try dsimp only [Og.exec, ev, evs, tsts, evd, fin, nc, strong, getS, setS, wipeS, padS, svOf, binV, mkI, mkB, strongs, weaks, nearly, steadys, passes, walkV, seqOf, asgT, parS, cmpV, ctOk, boxAt, fnEnd, truD, oi, flG])
    simp only [addL (a := (dLL g).take k.toNat) (b := [PyData.list [PyData.int t]]) (by simp [dLL]; omega)]
    (try dsimp only [Og.exec, ev, evs, tsts, evd, fin, nc, strong, getS, setS, wipeS, padS, svOf, binV, mkI, mkB, strongs, weaks, nearly, steadys, passes, walkV, seqOf, asgT, parS, cmpV, ctOk, boxAt, fnEnd, truD, oi, flG])
    simp only [addL (a := (dLL g).take k.toNat ++ [PyData.list [PyData.int t]]) (b := (dLL g).drop k.toNat) (by simp [dLL]; omega)]
    simp [grownM, dLL, dI, List.map_take, List.map_drop]
  | between =>
    simp only [waysM] at h1
    have hk : k + 1 < g.length := by split at h1 <;> omega
    refine x_sif0 (f := .pl) (h' := h) ?_ ?_
    · dsimp only [Og.exec, ev, evs, tsts, evd, fin, nc, strong, getS, setS, wipeS, padS, svOf, binV, addV, mkI, mkB, strongs, weaks, nearly, steadys, passes, walkV, seqOf, asgT, parS, cmpV, ctOk, boxAt, fnEnd, truD, oi, flG]; simp only [s_new, cEq_w]; rfl
    refine x_sif1 (f := .pl) (h' := h) ?_ ?_
    · dsimp only [Og.exec, ev, evs, tsts, evd, fin, nc, strong, getS, setS, wipeS, padS, svOf, binV, addV, mkI, mkB, strongs, weaks, nearly, steadys, passes, walkV, seqOf, asgT, parS, cmpV, ctOk, boxAt, fnEnd, truD, oi, flG]; simp only [s_between, cEq_w]; rfl
    refine x_ret ?_ rfl
    dsimp only [Og.exec, ev, evs, tsts, evd, fin, nc, strong, getS, setS, wipeS, padS, svOf, binV, mkI, mkB, strongs, weaks, nearly, steadys, passes, walkV, seqOf, asgT, parS, cmpV, ctOk, boxAt, fnEnd, truD, oi, flG]
    simp only [cut_to h0, sub_LL h0 (show k < g.length by omega)]
    (try dsimp only [Og.exec, ev, evs, tsts, evd, fin, nc, strong, getS, setS, wipeS, padS, svOf, binV, mkI, mkB, strongs, weaks, nearly, steadys, passes, walkV, seqOf, asgT, parS, cmpV, ctOk, boxAt, fnEnd, truD, oi, flG])
    have l1 := getD_le hg k.toNat
    have l2 := getD_le hg (k + 1).toNat
    simp only [addL (a := dI (g.getD k.toNat [])) (b := [PyData.int t]) (by rw [dI_len]; simp only [List.length_cons, List.length_nil]; omega), add_int]
    (try dsimp only [Og.exec, ev, evs, tsts, evd, fin, nc, strong, getS, setS, wipeS, padS, svOf, binV, mkI, mkB, strongs, weaks, nearly, steadys, passes, walkV, seqOf, asgT, parS, cmpV, ctOk, boxAt, fnEnd, truD, oi, flG])
    simp only [sub_LL (show 0 ≤ k + 1 by omega) hk]
    (try dsimp only [Og.exec, ev, evs, tsts, evd, fin, nc, strong, getS, setS, wipeS, padS, svOf, binV, mkI, mkB, strongs, weaks, nearly, steadys, passes, walkV, seqOf, asgT, parS, cmpV, ctOk, boxAt, fnEnd, truD, oi, flG])
    simp only [addL (a := dI (g.getD k.toNat []) ++ [PyData.int t]) (b := dI (g.getD (k + 1).toNat [])) (by simp [dI] at l1 l2 ⊢; omega)]
    (try dsimp only [Og.exec, ev, evs, tsts, evd, fin, nc, strong, getS, setS, wipeS, padS, svOf, binV, mkI, mkB, strongs, weaks, nearly, steadys, passes, walkV, seqOf, asgT, parS, cmpV, ctOk, boxAt, fnEnd, truD, oi, flG])
    simp only [addL (a := (dLL g).take k.toNat) (b := [PyData.list (dI (g.getD k.toNat []) ++ [PyData.int t] ++ dI (g.getD (k + 1).toNat []))]) (by simp [dLL]; omega), add_int]
    (try dsimp only [Og.exec, ev, evs, tsts, evd, fin, nc, strong, getS, setS, wipeS, padS, svOf, binV, mkI, mkB, strongs, weaks, nearly, steadys, passes, walkV, seqOf, asgT, parS, cmpV, ctOk, boxAt, fnEnd, truD, oi, flG])
    simp only [cut_from (show 0 ≤ k + 2 by omega)]
    (try dsimp only [Og.exec, ev, evs, tsts, evd, fin, nc, strong, getS, setS, wipeS, padS, svOf, binV, mkI, mkB, strongs, weaks, nearly, steadys, passes, walkV, seqOf, asgT, parS, cmpV, ctOk, boxAt, fnEnd, truD, oi, flG])
    simp only [addL (a := (dLL g).take k.toNat ++ [PyData.list (dI (g.getD k.toNat []) ++ [PyData.int t] ++ dI (g.getD (k + 1).toNat []))]) (b := (dLL g).drop (k + 2).toNat) (by simp [dLL]; omega)]
    have e1 : (k + 1).toNat = k.toNat + 1 := by omega
    have e2 : (k + 2).toNat = k.toNat + 2 := by omega
    simp [grownM, dLL, dI, List.map_take, List.map_drop, e1, e2]
  | beside =>
    simp only [waysM] at h1
    have hk0 : 0 ≤ k / 2 := by omega
    have hk : k / 2 < g.length := by omega
    have l1 := getD_le hg (k / 2).toNat
    refine x_sif0 (f := .pl) (h' := h) ?_ ?_
    · dsimp only [Og.exec, ev, evs, tsts, evd, fin, nc, strong, getS, setS, wipeS, padS, svOf, binV, addV, mkI, mkB, strongs, weaks, nearly, steadys, passes, walkV, seqOf, asgT, parS, cmpV, ctOk, boxAt, fnEnd, truD, oi, flG]; simp only [s_new, cEq_w]; rfl
    refine x_sif0 (f := .pl) (h' := h) ?_ ?_
    · dsimp only [Og.exec, ev, evs, tsts, evd, fin, nc, strong, getS, setS, wipeS, padS, svOf, binV, addV, mkI, mkB, strongs, weaks, nearly, steadys, passes, walkV, seqOf, asgT, parS, cmpV, ctOk, boxAt, fnEnd, truD, oi, flG]; simp only [s_between, cEq_w]; rfl
    refine x_asg (x := .int (k / 2)) (f := .pl) (h' := h) ?_ rfl ?_
    · dsimp only [Og.exec, ev, evs, tsts, evd, fin, nc, strong, getS, setS, wipeS, padS, svOf, binV, addV, mkI, mkB, strongs, weaks, nearly, steadys, passes, walkV, seqOf, asgT, parS, cmpV, ctOk, boxAt, fnEnd, truD, oi, flG]; rfl
    dsimp only [setS]
    refine x_asg (x := .list (dI (if k % 2 = 0 then [t] ++ g.getD (k / 2).toNat [] else g.getD (k / 2).toNat [] ++ [t]))) (f := .fr) (h' := h) ?_ rfl ?_
    · have hm : ev o G (callN o G F W n) (.cmp .eq (.bin .mod (.var 6) (.int 2)) (.int 0)) true [some (.d (.list (dLL g))), some (.d (.int t)), some (.d (encB b (.beside, k))), some (.d (.int (k / 2))), none, some (.d (.str (wS .beside))), some (.d (.int k))] h = .ok (.bool (decide (k % 2 = 0))) .pl h := by
        dsimp only [Og.exec, ev, evs, tsts, evd, fin, nc, strong, getS, setS, wipeS, padS, svOf, binV, addV, mkI, mkB, strongs, weaks, nearly, steadys, passes, walkV, seqOf, asgT, parS, cmpV, ctOk, boxAt, fnEnd, truD, oi, flG]
        exact cEq_int _ _
      rw [ev, hm]
      by_cases e : k % 2 = 0
      · simp only [e, decide_true, if_true]
        dsimp only [Og.exec, ev, evs, tsts, evd, fin, nc, strong, getS, setS, wipeS, padS, svOf, binV, mkI, mkB, strongs, weaks, nearly, steadys, passes, walkV, seqOf, asgT, parS, cmpV, ctOk, boxAt, fnEnd, truD, oi, flG]
        simp only [sub_LL hk0 hk]
        (try dsimp only [Og.exec, ev, evs, tsts, evd, fin, nc, strong, getS, setS, wipeS, padS, svOf, binV, mkI, mkB, strongs, weaks, nearly, steadys, passes, walkV, seqOf, asgT, parS, cmpV, ctOk, boxAt, fnEnd, truD, oi, flG])
        rw [addL (by rw [dI_len]; simp only [List.length_cons, List.length_nil]; omega)]
        simp [dI]
      · simp only [e, decide_false, if_false]
        dsimp only [Og.exec, ev, evs, tsts, evd, fin, nc, strong, getS, setS, wipeS, padS, svOf, binV, mkI, mkB, strongs, weaks, nearly, steadys, passes, walkV, seqOf, asgT, parS, cmpV, ctOk, boxAt, fnEnd, truD, oi, flG]
        simp only [sub_LL hk0 hk]
        (try dsimp only [Og.exec, ev, evs, tsts, evd, fin, nc, strong, getS, setS, wipeS, padS, svOf, binV, mkI, mkB, strongs, weaks, nearly, steadys, passes, walkV, seqOf, asgT, parS, cmpV, ctOk, boxAt, fnEnd, truD, oi, flG])
        rw [addL (by rw [dI_len]; simp only [List.length_cons, List.length_nil]; omega)]
        simp [dI]
    dsimp only [setS]
    refine x_ret ?_ rfl
    dsimp only [Og.exec, ev, evs, tsts, evd, fin, nc, strong, getS, setS, wipeS, padS, svOf, binV, mkI, mkB, strongs, weaks, nearly, steadys, passes, walkV, seqOf, asgT, parS, cmpV, ctOk, boxAt, fnEnd, truD, oi, flG]
    simp only [cut_to hk0, add_int]
    (try dsimp only [Og.exec, ev, evs, tsts, evd, fin, nc, strong, getS, setS, wipeS, padS, svOf, binV, mkI, mkB, strongs, weaks, nearly, steadys, passes, walkV, seqOf, asgT, parS, cmpV, ctOk, boxAt, fnEnd, truD, oi, flG])
    simp only [addL (a := (dLL g).take (k / 2).toNat) (b := [PyData.list (dI (if k % 2 = 0 then [t] ++ g.getD (k / 2).toNat [] else g.getD (k / 2).toNat [] ++ [t]))]) (by simp [dLL]; omega)]
    (try dsimp only [Og.exec, ev, evs, tsts, evd, fin, nc, strong, getS, setS, wipeS, padS, svOf, binV, mkI, mkB, strongs, weaks, nearly, steadys, passes, walkV, seqOf, asgT, parS, cmpV, ctOk, boxAt, fnEnd, truD, oi, flG])
    simp only [cut_from (show 0 ≤ k / 2 + 1 by omega)]
    (try dsimp only [Og.exec, ev, evs, tsts, evd, fin, nc, strong, getS, setS, wipeS, padS, svOf, binV, mkI, mkB, strongs, weaks, nearly, steadys, passes, walkV, seqOf, asgT, parS, cmpV, ctOk, boxAt, fnEnd, truD, oi, flG])
    rw [addL (by simp [dLL]; omega)]
    have e1 : (k / 2 + 1).toNat = (k / 2).toNat + 1 := by omega
    simp [grownM, dLL, dI, List.map_take, List.map_drop, e1]
end
end Lw

end
section
set_option Elab.async false
set_option linter.all false
set_option maxRecDepth 100000
/-! rows from choices and gaps -/
namespace Lw
open PySem Og Og.Enc
section
variable {o : Hist → Int → Int} {G : List D} {F : List Og.Def} {W n : Nat} {h : Hist}
theorem setN_dI : ∀ (l : List Int) (k : Nat) (v : Int), setN (dI l) k (.int v) = dI (l.set k v)
  | [], _, _ => by simp [dI, setN]
  | x :: l, 0, v => by simp [dI, setN]
  | x :: l, k + 1, v => by
    have := setN_dI l k v
    simp only [dI] at this
    simp [dI, setN, this]
theorem rep0 : ∀ n : Nat, repL [PyData.int 0] n = dI (List.replicate n 0)
  | 0 => rfl
  | n + 1 => by simp only [repL, rep0 n]; rfl
theorem sub_sq {b : Bool} {l : List Int} {k : Nat} (hk : k < l.length) : subV (sq b (dI l)) (.int (k : Int)) h = .ok (.int (l.getD k 0)) .pl h := by
  have : (dI l)[k]? = some (.int (l.getD k 0)) := by simp [dI, List.getElem?_eq_getElem hk]
  cases b <;> exact subL_nat this
theorem len_sq {b : Bool} {l : List D} : bltV .len [sq b l] h = .ok (.int (l.length : Nat)) .pl h := by cases b <;> rfl
theorem enum_sq {α : Type} (enc : α → D) (b : Bool) (l : List α) : walkV .enum [sq b (l.map enc)] h = .ok ((enumL 0 l).map fun q => .tuple [.int (q.1 : Int), enc q.2]) h := by
  simp only [walkV, seqOf_sq]
  exact congrArg (fun z => RI.ok z h) (enumD_eq enc 0 l)
theorem enumL_split {α : Type} {l : List α} {done rest : List (Nat × α)} {y : Nat × α} {i : Nat} (e : enumL i l = done ++ y :: rest) : y.1 = i + done.length ∧ l = done.map (·.2) ++ y.2 :: rest.map (·.2) := by
  induction l generalizing i done with
  | nil => simp [enumL] at e
  | cons x l ih =>
    simp only [enumL] at e
    cases done with
    | nil =>
      simp only [List.nil_append, List.cons.injEq] at e
      obtain ⟨e1, e2⟩ := e
      have : rest.map (·.2) = l := by
        rw [← e2]
        have : ∀ (l : List α) (i : Nat), (enumL i l).map (·.2) = l := by
          intro l
          induction l with
          | nil => intro i; rfl
          | cons x l ih => intro i; simp [enumL, ih]
        exact this l _
      rw [← e1, this]; simp
    | cons d done =>
      simp only [List.cons_append, List.cons.injEq] at e
      obtain ⟨e1, e2⟩ := e
      obtain ⟨i1, i2⟩ := ih e2
      refine ⟨by simp; omega, ?_⟩
      rw [← e1]; simp only [List.map_cons, List.cons_append]; rw [← i2]
theorem enumL_snd {α : Type} : ∀ (l : List α) (i : Nat), (enumL i l).map (·.2) = l
  | [], _ => rfl
  | x :: l, i => by simp [enumL, enumL_snd l]
theorem c_row_of [Fn F 24 d24] [Fn F 25 d25] {cs : List (W3 × Int)} {gs : List Int} {f1 f2 : Fl} (b1 b2 b3 : Bool) (v : Valid 0 cs) (hg : endM 0 cs ≤ gs.length) (hl : cs.length ≤ 1000) :
    callN o G F W (n + 2) 25 [.d (sq b1 (cs.map (encB b2))) f1, .d (sq b3 (dI gs)) f2] h = .ok (.tuple (dI (rowM cs gs))) .pl h := by
  rw [call_eq 25 rfl]
  refine fn_ret ?_
  dsimp only [padS, svOf]
  refine x_asg (x := .list []) (f := .fr) (h' := h) rfl rfl ?_
  dsimp only [setS]
  refine x_for (as := [.d (sq b1 (cs.map (encB b2))) .pl]) (l := [sq b1 (cs.map (encB b2))]) (h' := h) rfl rfl (enum_sq (encB b2) b1 cs) ?_
  obtain ⟨σ', h', e1, rfl, x, y, rfl⟩ := for_inv (h := h) (enc := fun q : Nat × (W3 × Int) => PyData.tuple [.int (q.1 : Int), encB b2 q.2]) (tg := .cons (.nm 3) (.cons (.nm 4) .nil)) (b := exec o G (callN o G F W (n + 1)) W (.asg (.nm 2) (.call 24 (.cons (.var 2) (.cons (.var 3) (.cons (.var 4) .nil))))))
    (σ := [some (.d (sq b1 (cs.map (encB b2)))), some (.d (sq b3 (dI gs))), some (.d (.list [])), none, none, none, none, none, none])
    (fun done σ h' => h' = h ∧ ∃ x y, σ = [some (.d (sq b1 (cs.map (encB b2)))), some (.d (sq b3 (dI gs))), some (.d (.list (dLL (groupsM (done.map (·.2)))))), x, y, none, none, none, none]) (l := enumL 0 cs) ⟨rfl, none, none, rfl⟩ (by
      rintro done ⟨t, c⟩ rest σ h' e ⟨rfl, x, y, rfl⟩
      obtain ⟨et, ec⟩ := enumL_split e
      simp only [Nat.zero_add] at et ec
      have v2 := v
      rw [ec] at v2
      obtain ⟨va, vb⟩ := valid_app.mp v2
      obtain ⟨i1, i2, i3, i4, i5⟩ := groups_info _ va
      have hdl : (done.map (·.2)).length ≤ 1000 := by have := congrArg List.length ec; simp at this ⊢; omega
      refine ⟨_, [some (.d (sq b1 (cs.map (encB b2)))), some (.d (sq b3 (dI gs))), some (.d (.list (dLL (grownM (groupsM (done.map (·.2))) t c)))), some (.d (.int t)), some (.d (encB b2 c)), none, none, none, none], h', rfl, .inl ?_, rfl, some (.d (.int t)), some (.d (encB b2 c)), ?_⟩
      · dsimp only [asgT, setS]
        refine st_asg (x := .list (dLL (grownM (groupsM (done.map (·.2))) t c))) (f := .fr) ?_ rfl
        refine v_call (as := [.d (.list (dLL (groupsM (done.map (·.2))))) .pl, .d (.int t) .pl, .d (encB b2 c) .pl]) (h' := h') rfl rfl ?_
        exact c_grown b2 (by rw [i1]; exact vb.1) (by omega) (by omega)
      · rw [List.map_append, List.map_cons, List.map_nil, groupsM_snoc, et]; simp)
  refine ⟨_, _, e1, ?_⟩
  rw [enumL_snd]
  obtain ⟨i1, i2, i3, i4, i5⟩ := groups_info _ v
  have hwd : wide (cs.length : Int) = true := wide_of (by omega) (by omega)
  refine x_par (as := [.d (.list (dI (List.replicate cs.length 0))) .fr, .d (.int 0) .pl]) (h' := h') ?_ rfl ?_
  · dsimp only [Og.exec, ev, evs, tsts, evd, fin, nc, strong, getS, setS, wipeS, padS, svOf, binV, addV, mkI, mkB, strongs, weaks, nearly, steadys, passes, walkV, seqOf, asgT, parS, cmpV, ctOk, boxAt, fnEnd, truD, oi, flG]
    simp only [len_sq]
    dsimp only [Og.exec, ev, evs, tsts, evd, fin, nc, strong, getS, setS, wipeS, padS, svOf, binV, addV, mkI, mkB, strongs, weaks, nearly, steadys, passes, walkV, seqOf, asgT, parS, cmpV, ctOk, boxAt, fnEnd, truD, oi, flG, mulV]
    simp only [List.length_map, hwd, Int.toNat_natCast, rep0]
    have : lenOk ([PyData.int 0].length * cs.length) = true := lenOk_of (by simp; omega)
    simp only [this, Bool.and_self]
  dsimp only [setS]
  have rowE : rowM cs gs = (placeA (List.replicate cs.length 0, 0) (groupsM cs) gs).1 := rfl
  rw [rowE]
  generalize groupsM cs = g at i1 i2 i3 i4
  refine x_for (as := [.d (.list (dLL g)) .pl]) (l := [.list (dLL g)]) (h' := h') rfl rfl (enum_sq (fun x : List Int => PyData.list (dI x)) true g) ?_
  obtain ⟨σ', h2, e1, rfl, x, y, z, rfl⟩ := for_inv (h := h') (enc := fun q : Nat × List Int => PyData.tuple [.int (q.1 : Int), .list (dI q.2)]) (tg := .cons (.nm 7) (.cons (.nm 8) .nil)) (b := exec o G (callN o G F W (n + 1)) W (.seq (.aug 6 .add (.sub (.var 1) (.var 7))) (.for_ (.nm 3) .seq (.cons (.var 8) .nil) (.seq (.setsub 5 (.var 3) (.var 6)) (.aug 6 .add (.int 1))))))
    (σ := [some (.d (sq b1 (cs.map (encB b2)))), some (.d (sq b3 (dI gs))), some (.d (.list (dLL g))), x, y, some (.own (.list (dI (List.replicate cs.length 0)))), some (.d (.int 0)), none, none])
    (fun done σ h2 => h2 = h' ∧ ∃ x7 x8 x3, σ = [some (.d (sq b1 (cs.map (encB b2)))), some (.d (sq b3 (dI gs))), some (.d (.list (dLL g))), x3, y, some (.own (.list (dI (placeA (List.replicate cs.length 0, 0) (done.map (·.2)) gs).1))), some (.d (.int (placeA (List.replicate cs.length 0, 0) (done.map (·.2)) gs).2)), x7, x8]) (l := enumL 0 g) ⟨rfl, none, none, x, rfl⟩ (by
      rintro done ⟨t, own⟩ rest σ h2 e ⟨rfl, x7, x8, x3, rfl⟩
      obtain ⟨et, ec⟩ := enumL_split e
      simp only [Nat.zero_add] at et ec
      have hpl := placeA_len (done.map (·.2)) (List.replicate cs.length 0, 0) gs
      simp only [List.length_replicate] at hpl
      have hown : ∀ u ∈ own, 0 ≤ u ∧ u < cs.length := fun u hu => (i2 u).mp (by rw [ec]; exact List.mem_flatten.mpr ⟨own, by simp, hu⟩)
      have htg : t < gs.length := by
        have := congrArg List.length ec
        simp at this; omega
      rw [List.map_append, List.map_cons, List.map_nil, placeA_snoc, List.length_map]
      generalize placeA (List.replicate cs.length 0, 0) (done.map (·.2)) gs = s at hpl
      rw [← et]
      generalize hs0 : (s.1, s.2 + gs.getD t 0) = s0
      have hs1 : s0.1.length = cs.length := by rw [← hs0]; exact hpl
      obtain ⟨σ2, h3, e3, rfl, z, rfl⟩ := for_inv (h := h2) (enc := PyData.int) (tg := .nm 3) (b := exec o G (callN o G F W (n + 1)) W (.seq (.setsub 5 (.var 3) (.var 6)) (.aug 6 .add (.int 1))))
        (σ := [some (.d (sq b1 (cs.map (encB b2)))), some (.d (sq b3 (dI gs))), some (.d (.list (dLL g))), x3, y, some (.own (.list (dI s0.1))), some (.d (.int s0.2)), some (.d (.int t)), some (.d (.list (dI own)))])
        (fun done σ h3 => h3 = h2 ∧ ∃ z, σ = [some (.d (sq b1 (cs.map (encB b2)))), some (.d (sq b3 (dI gs))), some (.d (.list (dLL g))), z, y, some (.own (.list (dI (placeG s0 done).1))), some (.d (.int (placeG s0 done).2)), some (.d (.int t)), some (.d (.list (dI own)))]) (l := own) ⟨rfl, x3, rfl⟩ (by
          rintro done u rest2 σ h3 e2 ⟨rfl, z, rfl⟩
          have hu := hown u (by rw [e2]; simp)
          have hgl := (placeG_len done s0).1
          rw [placeG_snoc]
          generalize placeG s0 done = s2 at hgl
          refine ⟨_, [some (.d (sq b1 (cs.map (encB b2)))), some (.d (sq b3 (dI gs))), some (.d (.list (dLL g))), some (.d (.int u)), y, some (.own (.list (dI (s2.1.set u.toNat s2.2)))), some (.d (.int (s2.2 + 1))), some (.d (.int t)), some (.d (.list (dI own)))], h3, rfl, .inl ?_, rfl, some (.d (.int u)), rfl⟩
          dsimp only [asgT, setS]
          have hix : ixI (dI s2.1).length u = some u.toNat := by
            have e : u = (u.toNat : Int) := by omega
            rw [e]; exact ixI_nat (by rw [dI_len]; omega)
          dsimp only [Og.exec, ev, evs, tsts, evd, fin, nc, strong, getS, setS, wipeS, padS, svOf, binV, addV, mkI, mkB, strongs, weaks, nearly, steadys, passes, walkV, seqOf, asgT, parS, cmpV, ctOk, boxAt, fnEnd, truD, oi, flG, setV]
          simp only [hix, setN_dI]
          (try dsimp only [Og.exec, ev, evs, tsts, evd, fin, nc, strong, getS, setS, wipeS, padS, svOf, binV, addV, mkI, mkB, strongs, weaks, nearly, steadys, passes, walkV, seqOf, asgT, parS, cmpV, ctOk, boxAt, fnEnd, truD, oi, flG, subV]))
      refine ⟨_, _, h3, rfl, .inl ?_, rfl, some (.d (.int t)), some (.d (.list (dI own))), z, rfl⟩
      dsimp only [asgT, setS]
      refine x_seq (σ' := [some (.d (sq b1 (cs.map (encB b2)))), some (.d (sq b3 (dI gs))), some (.d (.list (dLL g))), x3, y, some (.own (.list (dI s0.1))), some (.d (.int s0.2)), some (.d (.int t)), some (.d (.list (dI own)))]) (h' := h3) ?_ ?_
      · dsimp only [Og.exec, ev, evs, tsts, evd, fin, nc, strong, getS, setS, wipeS, padS, svOf, binV, mkI, mkB, strongs, weaks, nearly, steadys, passes, walkV, seqOf, asgT, parS, cmpV, ctOk, boxAt, fnEnd, truD, oi, flG]
        simp only [sub_sq (b := b3) htg]
        (try dsimp only [Og.exec, ev, evs, tsts, evd, fin, nc, strong, getS, setS, wipeS, padS, svOf, binV, addV, mkI, mkB, strongs, weaks, nearly, steadys, passes, walkV, seqOf, asgT, parS, cmpV, ctOk, boxAt, fnEnd, truD, oi, flG, subV])
        rw [← hs0]
      · dsimp only [Og.exec, ev, evs, tsts, evd, fin, nc, strong, getS, setS, wipeS, padS, svOf, binV, addV, mkI, mkB, strongs, weaks, nearly, steadys, passes, walkV, seqOf, asgT, parS, cmpV, ctOk, boxAt, fnEnd, truD, oi, flG]
        exact e3)
  refine ⟨_, _, e1, ?_⟩
  rw [enumL_snd]
  exact x_ret rfl rfl
end
end Lw

end
section
set_option Elab.async false
set_option linter.all false
set_option maxRecDepth 100000
/-! choices or not -/
namespace Lw
open PySem Og Og.Enc
section
variable {o : Hist → Int → Int} {G : List D} {F : List Og.Def} {W n : Nat} {h : Hist}
def wordsD : D := .tuple [.str (wS .beside), .str (wS .between), .str (wS .new)]
def stepsD : D := .dict [(.str (wS .beside), .int 0), (.str (wS .between), .int (-1)), (.str (wS .new), .int 1)]
theorem sub_steps (w : W3) : subV stepsD (.str (wS w)) h = .ok (.int (stepM w)) .pl h := by
  cases w <;> simp only [subV, stepsD, keyOk, keyA, List.all, Bool.and_self, getKey, eqv_w] <;> rfl
theorem nin_words (w : W3) : cIn true (.str (wS w)) wordsD h = .ok (.bool false) .pl h := by
  cases w <;> simp only [cIn, wordsD, sh_w, shapedL, List.all, Bool.and_self, inD, List.any, eqv_w, mkB] <;> rfl
theorem c_is_number_int [Fn F 0 d0] {i : Int} {f : Fl} : callN o G F W (n + 1) 0 [.d (.int i) f] h = .ok (.bool true) .pl h := by
  rw [call_eq 0 rfl]
  rfl
theorem c_ways [Fn F 15 d15] {w : W3} {many : Int} {f1 f2 : Fl} : callN o G F W (n + 1) 15 [.d (.str (wS w)) f1, .d (.int many) f2] h = .ok (.int (waysM w many)) .pl h := by
  rw [call_eq 15 rfl]
  dsimp only [b15]
  cases w
  · repeat (first | dsimp only [Og.exec, ev, evs, tsts, evd, fin, nc, strong, getS, setS, wipeS, padS, svOf, binV, addV, mkI, mkB, strongs, weaks, nearly, steadys, passes, walkV, seqOf, asgT, parS, cmpV, ctOk, boxAt, fnEnd, truD, oi, flG] | simp only [s_new, s_beside, s_between, cEq_w, cNe_w, cEq_int, cNe_int, cLt_int, cLe_int, ltI_dec, leI_dec, eq_self, reduceCtorEq, decide_true, decide_false, Bool.not_true, Bool.not_false])
    rfl
  · repeat (first | dsimp only [Og.exec, ev, evs, tsts, evd, fin, nc, strong, getS, setS, wipeS, padS, svOf, binV, addV, mkI, mkB, strongs, weaks, nearly, steadys, passes, walkV, seqOf, asgT, parS, cmpV, ctOk, boxAt, fnEnd, truD, oi, flG] | simp only [s_new, s_beside, s_between, cEq_w, cNe_w, cEq_int, cNe_int, cLt_int, cLe_int, ltI_dec, leI_dec, eq_self, reduceCtorEq, decide_true, decide_false, Bool.not_true, Bool.not_false, mulV_int (show small 2 = true from rfl)])
    rfl
  · repeat (first | dsimp only [Og.exec, ev, evs, tsts, evd, fin, nc, strong, getS, setS, wipeS, padS, svOf, binV, addV, mkI, mkB, strongs, weaks, nearly, steadys, passes, walkV, seqOf, asgT, parS, cmpV, ctOk, boxAt, fnEnd, truD, oi, flG] | simp only [s_new, s_beside, s_between, cEq_w, cNe_w, cEq_int, cNe_int, cLt_int, cLe_int, ltI_dec, leI_dec, eq_self, reduceCtorEq, decide_true, decide_false, Bool.not_true, Bool.not_false, bltV])
    by_cases hm : many - 1 < 0
    · have h0 : ¬ (0 < many - 1) := by omega
      simp only [h0, waysM, hm, if_true, decide_false]; rfl
    · by_cases h0 : 0 < many - 1
      · simp only [h0, waysM, hm, if_false, decide_true]; rfl
      · have h1 : many - 1 = 0 := by omega
        simp only [h1, waysM]; rfl
theorem encC_eq (c : W3 × Int) : encC c = encB false c := rfl
theorem c_is_choice [Fn F 0 d0] [Fn F 15 d15] [Fn F 16 d16] [Gc G 0 wordsD] {c : W3 × Int} {many : Int} {f1 f2 : Fl} :
    callN o G F W (n + 2) 16 [.d (encC c) f1, .d (.int many) f2] h = .ok (.bool (decide (0 ≤ c.2 ∧ c.2 < waysM c.1 many))) .pl h := by
  obtain ⟨w, k⟩ := c
  rw [call_eq 16 rfl]
  refine fn_ret ?_
  dsimp only [padS, svOf, encC]
  have s0 : subL [PyData.str (wS w), .int k] 0 h = .ok (.str (wS w)) .pl h := rfl
  have s1 : subL [PyData.str (wS w), .int k] 1 h = .ok (.int k) .pl h := rfl
  refine x_sif0 (f := .pl) (h' := h) ?_ ?_
  · refine v_or0 (f := .pl) (h' := h) rfl ?_
    refine v_or0 (f := .pl) (h' := h) ?_ ?_
    · dsimp only [Og.exec, ev, evs, tsts, evd, fin, nc, strong, getS, setS, wipeS, padS, svOf, binV, addV, mkI, mkB, strongs, weaks, nearly, steadys, passes, walkV, seqOf, asgT, parS, cmpV, ctOk, boxAt, fnEnd, truD, oi, flG, bltV, List.length]; exact cNe_int _ _
    refine v_or0 (f := .pl) (h' := h) ?_ ?_
    · refine v_not (b := true) (f := .pl) ?_
      dsimp only [Og.exec, ev, evs, tsts, evd, fin, nc, strong, getS, setS, wipeS, padS, svOf, binV, addV, mkI, mkB, strongs, weaks, nearly, steadys, passes, walkV, seqOf, asgT, parS, cmpV, ctOk, boxAt, fnEnd, truD, oi, flG, subV]
      simp only [s0]
      rfl
    dsimp only [Og.exec, ev, evs, tsts, evd, fin, nc, strong, getS, setS, wipeS, padS, svOf, binV, addV, mkI, mkB, strongs, weaks, nearly, steadys, passes, walkV, seqOf, asgT, parS, cmpV, ctOk, boxAt, fnEnd, truD, oi, flG, subV]
    simp only [s0]
    (try dsimp only [Og.exec, ev, evs, tsts, evd, fin, nc, strong, getS, setS, wipeS, padS, svOf, binV, addV, mkI, mkB, strongs, weaks, nearly, steadys, passes, walkV, seqOf, asgT, parS, cmpV, ctOk, boxAt, fnEnd, truD, oi, flG, subV])
    simp only [glo_eq (G := G) 0]
    exact nin_words w
  · refine x_ret ?_ rfl
    dsimp only [Og.exec, ev, evs, tsts, evd, fin, nc, strong, getS, setS, wipeS, padS, svOf, binV, addV, mkI, mkB, strongs, weaks, nearly, steadys, passes, walkV, seqOf, asgT, parS, cmpV, ctOk, boxAt, fnEnd, truD, oi, flG, subV]
    try simp only [s1]
    (try dsimp only [Og.exec, ev, evs, tsts, evd, fin, nc, strong, getS, setS, wipeS, padS, svOf, binV, addV, mkI, mkB, strongs, weaks, nearly, steadys, passes, walkV, seqOf, asgT, parS, cmpV, ctOk, boxAt, fnEnd, truD, oi, flG, subV])
    simp only [c_is_number_int]
    (try dsimp only [Og.exec, ev, evs, tsts, evd, fin, nc, strong, getS, setS, wipeS, padS, svOf, binV, addV, mkI, mkB, strongs, weaks, nearly, steadys, passes, walkV, seqOf, asgT, parS, cmpV, ctOk, boxAt, fnEnd, truD, oi, flG, subV])
    try simp only [s1]
    (try dsimp only [Og.exec, ev, evs, tsts, evd, fin, nc, strong, getS, setS, wipeS, padS, svOf, binV, addV, mkI, mkB, strongs, weaks, nearly, steadys, passes, walkV, seqOf, asgT, parS, cmpV, ctOk, boxAt, fnEnd, truD, oi, flG, subV])
    simp only [cLe_int]
    by_cases e : 0 ≤ k
    · simp only [e, decide_true, true_and]
      try simp only [s0]
      (try dsimp only [Og.exec, ev, evs, tsts, evd, fin, nc, strong, getS, setS, wipeS, padS, svOf, binV, addV, mkI, mkB, strongs, weaks, nearly, steadys, passes, walkV, seqOf, asgT, parS, cmpV, ctOk, boxAt, fnEnd, truD, oi, flG, subV])
      simp only [c_ways]
      (try dsimp only [Og.exec, ev, evs, tsts, evd, fin, nc, strong, getS, setS, wipeS, padS, svOf, binV, addV, mkI, mkB, strongs, weaks, nearly, steadys, passes, walkV, seqOf, asgT, parS, cmpV, ctOk, boxAt, fnEnd, truD, oi, flG, subV])
      simp only [cLt_int]
    · simp only [e, decide_false, false_and]
theorem c_count_groups [Fn F 18 d18] [Gc G 1 stepsD] {cs : List (W3 × Int)} {f1 : Fl} (b1 b2 : Bool) (hl : cs.length ≤ 1000) :
    callN o G F W (n + 1) 18 [.d (sq b1 (cs.map (encB b2))) f1] h = .ok (.int (sumI (cs.map fun c => stepM c.1))) .pl h := by
  rw [call_eq 18 rfl]
  refine fn_ret (x_ret ?_ rfl)
  dsimp only [padS, svOf]
  refine v_blt1 (x := .list ((cs.filter fun _ => true).map fun c => .int (stepM c.1))) (f := .fr) rfl ?_ (by decide) ?_
  · refine v_comp (as := [.d (sq b1 (cs.map (encB b2))) .pl]) (l := [sq b1 (cs.map (encB b2))]) (ys := cs.map (encB b2)) (h' := h) rfl rfl (by simp only [walkV, seqOf_sq]) ?_ (by rw [List.length_map]; exact Nat.le_trans (List.length_filter_le _ _) (by omega))
    refine comp_map fun c hc => ⟨[some (.d (sq b1 (cs.map (encB b2)))), some (.d (.str (wS c.1))), some (.d (.int c.2))], by cases b2 <;> rfl, ⟨.pl, rfl⟩, fun _ => ⟨.pl, by decide, by decide, ?_⟩⟩
    dsimp only [Og.exec, ev, evs, tsts, evd, fin, nc, strong, getS, setS, wipeS, padS, svOf, binV, addV, mkI, mkB, strongs, weaks, nearly, steadys, passes, walkV, seqOf, asgT, parS, cmpV, ctOk, boxAt, fnEnd, truD, oi, flG]
    simp only [glo_eq (G := G) 1]
    have := sub_steps c.1 (h := h)
    dsimp only [stepsD] at this ⊢
    dsimp only [Og.exec, ev, evs, tsts, evd, fin, nc, strong, getS, setS, wipeS, padS, svOf, binV, addV, mkI, mkB, strongs, weaks, nearly, steadys, passes, walkV, seqOf, asgT, parS, cmpV, ctOk, boxAt, fnEnd, truD, oi, flG, isStrD]
    exact this
  · rw [List.filter_eq_self.mpr (by simp)]
    have e : (cs.map fun c => PyData.int (stepM c.1)) = dI (cs.map fun c => stepM c.1) := by simp [dI]
    have sf : ∀ (l : List Int) (a : Int), sumF l a = a + sumI l := by
      intro l
      induction l with
      | nil => intro a; simp [sumF, sumI]
      | cons x l ih => intro a; simp only [sumF, iF_eq, sumI, ih]; omega
    rw [e]
    simp only [bltV, seqOf, intsD_dI, mkI, sf, Int.zero_add]
theorem endM_sum : ∀ (cs : List (W3 × Int)) (m : Nat), Valid m cs → (endM m cs : Int) = m + sumI (cs.map fun c => stepM c.1)
  | [], m, _ => by simp [endM, sumI]
  | (w, k) :: cs, m, ⟨v1, v2⟩ => by
    simp only [endM, List.map_cons, sumI]
    rw [endM_sum cs _ v2]
    obtain ⟨h0, h1⟩ := v1
    simp only at h0 h1
    have : 0 ≤ (m : Int) + stepM w := by
      cases w <;> simp only [stepM, waysM] at h1 ⊢
      · omega
      · omega
      · by_cases q : (m : Int) - 1 < 0
        · rw [if_pos q] at h1; omega
        · omega
    dsimp only
    omega
theorem c_is_choices [Fn F 0 d0] [Fn F 15 d15] [Fn F 16 d16] [Fn F 17 d17] [Gc G 0 wordsD] [Gc G 1 stepsD] {cs : List (W3 × Int)} {f1 : Fl} (v : Valid 0 cs) :
    callN o G F W (n + 3) 17 [.d (.tuple (cs.map encC)) f1] h = .ok (.bool true) .pl h := by
  rw [call_eq 17 rfl]
  refine fn_ret ?_
  dsimp only [padS, svOf]
  refine x_sif0 (f := .pl) (h' := h) rfl ?_
  refine x_asg (x := .int 0) (f := .pl) (h' := h) rfl rfl ?_
  dsimp only [setS]
  refine x_for (as := [.d (.tuple (cs.map encC)) .pl]) (l := [.tuple (cs.map encC)]) (ys := cs.map encC) (h' := h) rfl rfl rfl ?_
  obtain ⟨σ', h', e1, rfl, x, rfl⟩ := for_inv (h := h) (enc := encC) (tg := .nm 2) (b := exec o G (callN o G F W (n + 2)) W (.seq (.ifs (.not (.call 16 (.cons (.var 2) (.cons (.var 1) .nil)))) (.ret (.bl false)) .skip) (.aug 1 .add (.sub (.glo 1) (.sub (.var 2) (.int 0))))))
    (σ := [some (.d (.tuple (cs.map encC))), some (.d (.int 0)), none])
    (fun done σ h' => h' = h ∧ ∃ x, σ = [some (.d (.tuple (cs.map encC))), some (.d (.int (endM 0 done : Nat))), x]) (l := cs) ⟨rfl, none, rfl⟩ (by
      rintro done c rest σ h' e ⟨rfl, x, rfl⟩
      have v2 := v
      rw [e] at v2
      obtain ⟨va, vb, vr⟩ := valid_app.mp v2
      have es := endM_sum done 0 va
      have es2 := endM_sum (done ++ [c]) 0 (valid_app.mpr ⟨va, vb, trivial⟩)
      have et : (endM 0 (done ++ [c]) : Int) = endM 0 done + stepM c.1 := by
        have sa : ∀ (l : List Int) (x : Int), sumI (l ++ [x]) = sumI l + x := by
          intro l
          induction l with
          | nil => intro x; simp [sumI]
          | cons y l ih => intro x; simp only [List.cons_append, sumI, ih]; omega
        rw [es2, es, List.map_append, List.map_cons, List.map_nil, sa]; omega
      rw [et]
      refine ⟨_, [some (.d (.tuple (cs.map encC))), some (.d (.int (endM 0 done + stepM c.1))), some (.d (encC c))], h', rfl, .inl ?_, rfl, some (.d (encC c)), rfl⟩
      dsimp only [asgT, setS]
      refine x_sif0 (f := .pl) (h' := h') ?_ ?_
      · dsimp only [Og.exec, ev, evs, tsts, evd, fin, nc, strong, getS, setS, wipeS, padS, svOf, binV, addV, mkI, mkB, strongs, weaks, nearly, steadys, passes, walkV, seqOf, asgT, parS, cmpV, ctOk, boxAt, fnEnd, truD, oi, flG]
        simp only [c_is_choice]
        have : decide (0 ≤ c.2 ∧ c.2 < waysM c.1 (endM 0 done : Nat)) = true := decide_eq_true vb
        simp only [this]
        rfl
      · dsimp only [Og.exec, ev, evs, tsts, evd, fin, nc, strong, getS, setS, wipeS, padS, svOf, binV, addV, mkI, mkB, strongs, weaks, nearly, steadys, passes, walkV, seqOf, asgT, parS, cmpV, ctOk, boxAt, fnEnd, truD, oi, flG, encC, subV]
        simp only [subL_zero]
        (try dsimp only [Og.exec, ev, evs, tsts, evd, fin, nc, strong, getS, setS, wipeS, padS, svOf, binV, mkI, mkB, strongs, weaks, nearly, steadys, passes, walkV, seqOf, asgT, parS, cmpV, ctOk, boxAt, fnEnd, truD, oi, flG])
        simp only [glo_eq (G := G) 1]
        have := sub_steps c.1 (h := h')
        dsimp only [stepsD, subV] at this ⊢
        dsimp only [Og.exec, ev, evs, tsts, evd, fin, nc, strong, getS, setS, wipeS, padS, svOf, binV, addV, mkI, mkB, strongs, weaks, nearly, steadys, passes, walkV, seqOf, asgT, parS, cmpV, ctOk, boxAt, fnEnd, truD, oi, flG, isStrD]
        simp only [this])
  refine ⟨_, _, e1, rfl⟩
end
end Lw

end
section
set_option Elab.async false
set_option linter.all false
set_option maxRecDepth 100000
/-! gaps or not; same; lists -/
namespace Lw
open PySem Og Og.Enc
section
variable {o : Hist → Int → Int} {G : List D} {F : List Og.Def} {W n : Nat} {h : Hist}
theorem bools_map {α : Type} (p : α → Bool) : ∀ l : List α, boolsD (l.map fun x => .bool (p x)) = some (l.map p)
  | [] => rfl
  | x :: l => by simp only [List.map_cons, boolsD, bools_map p l]
theorem all_map {α : Type} (p : α → Bool) (l : List α) : bltV .all [.list (l.map fun x => .bool (p x))] h = .ok (.bool (l.all p)) .pl h := by
  simp only [bltV, bools_map, mkB, List.all_map]; rfl
theorem any_map {α : Type} (p : α → Bool) (l : List α) : bltV .any [.list (l.map fun x => .bool (p x))] h = .ok (.bool (l.any p)) .pl h := by
  simp only [bltV, bools_map, mkB, List.any_map]; rfl
theorem filter_tt {α : Type} (l : List α) : (l.filter fun _ => true) = l := List.filter_eq_self.mpr (by simp)
theorem cut_in {xs : List D} : cutV (.tuple xs) (some 1) (some (-1)) h = .ok (.tuple ((xs.take (xs.length - 1)).drop 1)) .pl h := by
  have e1 : clip xs.length 1 = min 1 xs.length := rfl
  have e2 : clip xs.length (-1) = xs.length - 1 := rfl
  simp only [cutV, cutL, cLo, cHi, e1, e2]
  congr 2
  cases xs with
  | nil => rfl
  | cons x r => rfl
def gapsOk (many : Nat) (gs : List Int) : Prop := gs.length = many + 1 ∧ (∀ x ∈ gs, 0 ≤ x) ∧ ∀ x ∈ (gs.take (gs.length - 1)).drop 1, 0 < x
theorem c_is_gaps [Fn F 0 d0] [Fn F 18 d18] [Fn F 19 d19] [Gc G 1 stepsD] {cs : List (W3 × Int)} {gs : List Int} {f1 f2 : Fl} (b1 b2 : Bool) (v : Valid 0 cs) (hl : cs.length ≤ 1000) (hg : gapsOk (endM 0 cs) gs) :
    callN o G F W (n + 2) 19 [.d (sq b1 (cs.map (encB b2))) f1, .d (.tuple (dI gs)) f2] h = .ok (.bool true) .pl h := by
  obtain ⟨g1, g2, g3⟩ := hg
  obtain ⟨_, _, _, _, i5⟩ := groups_info _ v
  have es := endM_sum cs 0 v
  rw [call_eq 19 rfl]
  refine fn_ret ?_
  dsimp only [padS, svOf]
  refine x_sif0 (f := .pl) (h' := h) ?_ ?_
  · refine v_or0 (f := .pl) (h' := h) rfl ?_
    dsimp only [Og.exec, ev, evs, tsts, evd, fin, nc, strong, getS, setS, wipeS, padS, svOf, binV, addV, mkI, mkB, strongs, weaks, nearly, steadys, passes, walkV, seqOf, asgT, parS, cmpV, ctOk, boxAt, fnEnd, truD, oi, flG, bltV]
    simp only [c_count_groups b1 b2 hl]
    (try dsimp only [Og.exec, ev, evs, tsts, evd, fin, nc, strong, getS, setS, wipeS, padS, svOf, binV, addV, mkI, mkB, strongs, weaks, nearly, steadys, passes, walkV, seqOf, asgT, parS, cmpV, ctOk, boxAt, fnEnd, truD, oi, flG, subV])
    rw [cNe_int]
    have : ((dI gs).length : Int) = sumI (cs.map fun c => stepM c.1) + 1 := by rw [dI_len]; omega
    simp [this]
  refine x_ret (f := .pl) ?_ rfl
  refine v_and1 (f := .pl) (h' := h) ?_ ?_
  · refine v_blt1 (x := .list ((gs.filter fun _ => true).map fun i => .bool (decide (0 ≤ i)))) (f := .fr) rfl ?_ (by decide) ?_
    · refine v_comp (as := [.d (.tuple (dI gs)) .pl]) (l := [.tuple (dI gs)]) (ys := dI gs) (h' := h) rfl rfl rfl ?_ (by rw [List.length_map]; exact Nat.le_trans (List.length_filter_le _ _) (by omega))
      refine comp_ints fun i hi => ⟨⟨.pl, rfl⟩, fun _ => ⟨.pl, by decide, by decide, ?_⟩⟩
      refine v_and1 (f := .pl) (h' := h) ?_ ?_
      · refine v_call (as := [.d (.int i) .pl]) (h' := h) rfl rfl c_is_number_int
      · dsimp only [Og.exec, ev, evs, tsts, evd, fin, nc, strong, getS, setS, wipeS, padS, svOf, binV, addV, mkI, mkB, strongs, weaks, nearly, steadys, passes, walkV, seqOf, asgT, parS, cmpV, ctOk, boxAt, fnEnd, truD, oi, flG]; exact cLe_int _ _
    · rw [filter_tt, all_map]
      have : (gs.all fun i => decide (0 ≤ i)) = true := List.all_eq_true.mpr fun x hx => decide_eq_true (g2 x hx)
      rw [this]
  · refine v_blt1 (x := .list ((((gs.take (gs.length - 1)).drop 1).filter fun _ => true).map fun i => .bool (decide (0 < i)))) (f := .fr) rfl ?_ (by decide) ?_
    · refine v_comp (as := [.d (.tuple (dI ((gs.take (gs.length - 1)).drop 1))) .pl]) (l := [.tuple (dI ((gs.take (gs.length - 1)).drop 1))]) (ys := dI ((gs.take (gs.length - 1)).drop 1)) (h' := h) ?_ rfl rfl ?_ (by rw [List.length_map]; exact Nat.le_trans (List.length_filter_le _ _) (by simp; omega))
      · dsimp only [Og.exec, ev, evs, tsts, evd, fin, nc, strong, getS, setS, wipeS, padS, svOf, binV, addV, mkI, mkB, strongs, weaks, nearly, steadys, passes, walkV, seqOf, asgT, parS, cmpV, ctOk, boxAt, fnEnd, truD, oi, flG]
        have : cutV (.tuple (dI gs)) (some 1) (some (-1)) h = .ok (.tuple (dI ((gs.take (gs.length - 1)).drop 1))) .pl h := by
          rw [cut_in, dI_len, dI_take, dI_drop]
        simp only [this]
      refine comp_ints fun i hi => ⟨⟨.pl, rfl⟩, fun _ => ⟨.pl, by decide, by decide, ?_⟩⟩
      dsimp only [Og.exec, ev, evs, tsts, evd, fin, nc, strong, getS, setS, wipeS, padS, svOf, binV, addV, mkI, mkB, strongs, weaks, nearly, steadys, passes, walkV, seqOf, asgT, parS, cmpV, ctOk, boxAt, fnEnd, truD, oi, flG]; exact cLt_int _ _
    · rw [filter_tt, all_map]
      have : (((gs.take (gs.length - 1)).drop 1).all fun i => decide (0 < i)) = true := List.all_eq_true.mpr fun x hx => decide_eq_true (g3 x hx)
      rw [this]
/-! ### same -/
theorem eqv_bool (a b : Bool) : PyData.eqv (.bool a) (.bool b) = (a == b) := by simp [PyData.eqv]
theorem cEq_bool (a b : Bool) : cEq (.bool a) (.bool b) h = .ok (.bool (a == b)) .pl h := by simp only [cEq, sh_bool, Bool.and_self, mkB, eqv_bool]
theorem cNe_bool (a b : Bool) : cNe (.bool a) (.bool b) h = .ok (.bool (!(a == b))) .pl h := by simp only [cNe, sh_bool, Bool.and_self, mkB, eqv_bool]
theorem zip_self : ∀ xs : List D, zipD xs xs = xs.map fun x => .tuple [x, x]
  | [] => rfl
  | x :: r => by simp only [zipD, zip_self r, List.map_cons]
theorem lay_mem : ∀ {xs : List D} {x : D}, PyData.canLayAll0 xs = true → x ∈ xs → PyData.canLay0 x = true ∧ PyData.depth x ≤ PyData.depthAll xs
  | [], x, _, hx => by simp at hx
  | y :: r, x, h, hx => by
    have h' : y.canLay0 = true ∧ PyData.canLayAll0 r = true := by simpa [PyData.canLayAll0] using h
    simp only [PyData.depthAll]
    rcases List.mem_cons.mp hx with rfl | hx
    · exact ⟨h'.1, by omega⟩
    · have := lay_mem h'.2 hx
      exact ⟨this.1, by omega⟩
/-! few items at each place -/
mutual
def smD : D → Bool
  | .list xs => Nat.ble xs.length 1000000 && smL xs
  | .tuple xs => Nat.ble xs.length 1000000 && smL xs
  | .dict _ => false
  | _ => true
def smL : List D → Bool
  | [] => true
  | x :: r => smD x && smL r
end
theorem smL_mem : ∀ {xs : List D} {x : D}, smL xs = true → x ∈ xs → smD x = true
  | [], x, _, hx => by simp at hx
  | y :: r, x, h, hx => by
    simp only [smL, Bool.and_eq_true] at h
    rcases List.mem_cons.mp hx with rfl | hx
    · exact h.1
    · exact smL_mem h.2 hx
theorem smL_of : ∀ {xs : List D}, (∀ x ∈ xs, smD x = true) → smL xs = true
  | [], _ => rfl
  | y :: r, h => by simp only [smL, Bool.and_eq_true]; exact ⟨h y (by simp), smL_of fun x hx => h x (by simp [hx])⟩
theorem sm_sq (b : Bool) {xs : List D} (hl : xs.length ≤ 1000000) (h : ∀ x ∈ xs, smD x = true) : smD (sq b xs) = true := by
  have : Nat.ble xs.length 1000000 = true := Nat.ble_eq.mpr hl
  cases b <;> simp only [sq, smD, this, smL_of h, Bool.and_self]
/-- data that may be compared -/
def Dat (m : Nat) (x : D) : Prop := PyData.canLay0 x = true ∧ PyData.depth x ≤ m ∧ smD x = true
theorem dat_seq {m : Nat} {b : Bool} {xs : List D} (d : Dat (m + 1) (sq b xs)) : xs.length ≤ 1000000 ∧ ∀ x ∈ xs, Dat m x := by
  obtain ⟨h1, h2, h3⟩ := d
  cases b <;> simp only [sq, smD, Bool.and_eq_true, Nat.ble_eq] at h3 <;> simp only [sq, PyData.canLay0] at h1 <;> simp only [sq, PyData.depth] at h2 <;>
    exact ⟨h3.1, fun x hx => ⟨(lay_mem h1 hx).1, by have := (lay_mem h1 hx).2; omega, smL_mem h3.2 hx⟩⟩
theorem c_same_seq [Fn F 7 d7] {b : Bool} {xs : List D} {m : Nat} {f1 f2 : Fl} (hl : xs.length ≤ 1000000) (ih : ∀ x ∈ xs, callN o G F W m 7 [.d x .pl, .d x .pl] h = .ok (.bool true) .pl h) :
    callN o G F W (m + 1) 7 [.d (sq b xs) f1, .d (sq b xs) f2] h = .ok (.bool true) .pl h := by
  rw [call_eq 7 rfl]
  refine fn_ret ?_
  dsimp only [padS, svOf]
  have key : ev o G (callN o G F W m) (.comp (.call 7 (.cons (.var 2) (.cons (.var 3) .nil))) [2, 3] (.cons (.nm 2) (.cons (.nm 3) .nil)) .zip (.cons (.var 0) (.cons (.var 1) .nil)) .nil) false [some (.d (sq b xs)), some (.d (sq b xs)), none, none] h = .ok (.list ((xs.filter fun _ => true).map fun _ => .bool true)) .fr h := by
    refine v_comp (as := [.d (sq b xs) .pl, .d (sq b xs) .pl]) (l := [sq b xs, sq b xs]) (ys := xs.map fun x => .tuple [x, x]) (h' := h) rfl rfl ?_ ?_ (by rw [List.length_map]; exact Nat.le_trans (List.length_filter_le _ _) (by omega))
    · cases b <;> simp only [sq, walkV, zip_self]
    · refine comp_map fun x hx => ⟨_, rfl, ⟨.pl, rfl⟩, fun _ => ⟨.pl, by decide, by decide, ?_⟩⟩
      exact v_call (as := [.d x .pl, .d x .pl]) (h' := h) rfl rfl (ih x hx)
  refine x_sif1 (f := .pl) (h' := h) (by cases b <;> rfl) ?_
  refine x_sif0 (f := .pl) (h' := h) ?_ ?_
  · refine v_or0 (f := .pl) (h' := h) ?_ ?_
    · cases b <;> (dsimp only [Og.exec, ev, evs, tsts, evd, fin, nc, strong, getS, setS, wipeS, padS, svOf, binV, addV, mkI, mkB, strongs, weaks, nearly, steadys, passes, walkV, seqOf, asgT, parS, cmpV, ctOk, boxAt, fnEnd, truD, oi, flG, sq, bltV, noDict, isLstD]; exact cNe_bool _ _)
    · cases b <;> (dsimp only [Og.exec, ev, evs, tsts, evd, fin, nc, strong, getS, setS, wipeS, padS, svOf, binV, addV, mkI, mkB, strongs, weaks, nearly, steadys, passes, walkV, seqOf, asgT, parS, cmpV, ctOk, boxAt, fnEnd, truD, oi, flG, sq, bltV, noDict, isTupD]; exact cNe_bool _ _)
  refine x_ret ?_ rfl
  refine v_and1 (f := .pl) (h' := h) ?_ ?_
  · dsimp only [Og.exec, ev, evs, tsts, evd, fin, nc, strong, getS, setS, wipeS, padS, svOf, binV, addV, mkI, mkB, strongs, weaks, nearly, steadys, passes, walkV, seqOf, asgT, parS, cmpV, ctOk, boxAt, fnEnd, truD, oi, flG]
    simp only [len_sq]
    (try dsimp only [Og.exec, ev, evs, tsts, evd, fin, nc, strong, getS, setS, wipeS, padS, svOf, binV, addV, mkI, mkB, strongs, weaks, nearly, steadys, passes, walkV, seqOf, asgT, parS, cmpV, ctOk, boxAt, fnEnd, truD, oi, flG, subV])
    rw [cEq_int]; simp
  · refine v_blt1 rfl key (by decide) ?_
    rw [filter_tt, all_map (fun _ => true)]
    simp
theorem c_same_leaf [Fn F 7 d7] {x : D} (d : Dat 0 x) {f1 f2 : Fl} : callN o G F W (n + 1) 7 [.d x f1, .d x f2] h = .ok (.bool true) .pl h := by
  obtain ⟨d1, d2, d3⟩ := d
  have hs : SeqAt.shaped x = true := by
    simp only [SeqAt.shaped, d1, Bool.true_and, decide_eq_true_eq]; omega
  have hc : cEq x x h = .ok (.bool true) .pl h := by simp only [cEq, hs, Bool.and_self, mkB, SeqAt.eqv_refl x d1]
  rw [call_eq 7 rfl]
  refine fn_ret ?_
  dsimp only [padS, svOf]
  cases x with
  | none =>
    refine x_sif0 (f := .pl) (h' := h) rfl (x_sif1 (f := .pl) (h' := h) rfl (x_ret (f := .pl) ?_ rfl))
    refine v_and1 (f := .pl) (h' := h) hc (v_and1 (f := .pl) (h' := h) (cEq_bool _ _) (cEq_bool _ _))
  | bool b =>
    refine x_sif0 (f := .pl) (h' := h) rfl (x_sif1 (f := .pl) (h' := h) rfl (x_ret (f := .pl) ?_ rfl))
    refine v_and1 (f := .pl) (h' := h) hc (v_and1 (f := .pl) (h' := h) (cEq_bool _ _) (cEq_bool _ _))
  | str b =>
    refine x_sif0 (f := .pl) (h' := h) rfl (x_sif1 (f := .pl) (h' := h) rfl (x_ret (f := .pl) ?_ rfl))
    refine v_and1 (f := .pl) (h' := h) hc (v_and1 (f := .pl) (h' := h) (cEq_bool _ _) (cEq_bool _ _))
  | int i =>
    refine x_sif0 (f := .pl) (h' := h) rfl (x_sif0 (f := .pl) (h' := h) rfl (x_ret (f := .pl) ?_ rfl))
    refine v_and1 (f := .pl) (h' := h) rfl (v_and1 (f := .pl) (h' := h) rfl hc)
  | list xs => simp only [PyData.depth] at d2; omega
  | tuple xs => simp only [PyData.depth] at d2; omega
  | dict kvs => simp [smD] at d3
theorem c_same [Fn F 7 d7] : ∀ (m : Nat) (x : D), Dat m x → ∀ {f1 f2 : Fl}, callN o G F W (n + 1 + m) 7 [.d x f1, .d x f2] h = .ok (.bool true) .pl h := by
  intro m
  induction m with
  | zero => intro x d f1 f2; exact c_same_leaf d
  | succ m ih =>
    intro x d f1 f2
    have e : n + 1 + (m + 1) = (n + 1 + m) + 1 := by omega
    rw [e]
    cases x with
    | list xs =>
      obtain ⟨q1, q2⟩ := dat_seq (b := true) d
      exact c_same_seq (b := true) q1 fun x hx => ih x (q2 x hx)
    | tuple xs =>
      obtain ⟨q1, q2⟩ := dat_seq (b := false) d
      exact c_same_seq (b := false) q1 fun x hx => ih x (q2 x hx)
    | dict kvs => have := d.2.2; simp [smD] at this
    | none => exact c_same_leaf ⟨d.1, Nat.le_refl _, d.2.2⟩
    | bool b => exact c_same_leaf ⟨d.1, Nat.le_refl _, d.2.2⟩
    | int i => exact c_same_leaf ⟨d.1, Nat.le_refl _, d.2.2⟩
    | str x => exact c_same_leaf ⟨d.1, Nat.le_refl _, d.2.2⟩
theorem cEq_dat {m : Nat} {x : D} (d : Dat m x) (hm : m ≤ 60) : cEq x x h = .ok (.bool true) .pl h := by
  have hs : SeqAt.shaped x = true := by
    have := d.2.1
    simp only [SeqAt.shaped, d.1, Bool.true_and, decide_eq_true_eq]; omega
  simp only [cEq, hs, Bool.and_self, mkB, SeqAt.eqv_refl _ d.1]
/-! ### lists -/
mutual
def listsD : D → D
  | .list xs => .list (listsL xs)
  | .tuple xs => .list (listsL xs)
  | x => x
def listsL : List D → List D
  | [] => []
  | x :: r => listsD x :: listsL r
end
theorem listsL_map : ∀ xs : List D, listsL xs = xs.map listsD
  | [] => rfl
  | x :: r => by simp only [listsL, listsL_map r, List.map_cons]
theorem lists_sq (b : Bool) (xs : List D) : listsD (sq b xs) = .list (xs.map listsD) := by cases b <;> simp only [sq, listsD, listsL_map]
def isSq : D → Bool
  | .list _ => true
  | .tuple _ => true
  | _ => false
theorem c_lists_leaf [Fn F 26 d26] {x : D} (hs : isSq x = false) (hd : noDict x = true) {f : Fl} : callN o G F W (n + 1) 26 [.d x f] h = .ok (listsD x) .pl h := by
  rw [call_eq 26 rfl]
  refine fn_ret (x_ret ?_ rfl)
  refine v_ite0 (f := .pl) (h' := h) (by cases x <;> first | rfl | (simp [noDict] at hd; done) | (simp [isSq] at hs; done)) ?_
  cases x <;> first | rfl | (simp [noDict] at hd; done) | (simp [isSq] at hs; done)
theorem c_lists_seq [Fn F 26 d26] {b : Bool} {xs : List D} {m : Nat} {f : Fl} (hl : xs.length ≤ 1000000) (ih : ∀ x ∈ xs, ∃ f, okF f = true ∧ callN o G F W m 26 [.d x .pl] h = .ok (listsD x) f h) :
    callN o G F W (m + 1) 26 [.d (sq b xs) f] h = .ok (listsD (sq b xs)) .fr h := by
  rw [call_eq 26 rfl]
  refine fn_ret (x_ret ?_ rfl)
  refine v_ite1 (f := .pl) (h' := h) (by cases b <;> rfl) ?_
  rw [lists_sq]
  dsimp only [padS, svOf]
  have e : xs.map listsD = (xs.filter fun _ => true).map listsD := by rw [filter_tt]
  rw [e]
  refine v_comp (as := [.d (sq b xs) .pl]) (l := [sq b xs]) (ys := xs.map id) (h' := h) rfl rfl (by simp only [walkV, seqOf_sq, List.map_id]) ?_ (by rw [List.length_map]; exact Nat.le_trans (List.length_filter_le _ _) (by omega))
  refine comp_map fun x hx => ⟨_, rfl, ⟨.pl, rfl⟩, fun _ => ?_⟩
  obtain ⟨f, hf, q⟩ := ih x hx
  exact ⟨f, by cases f <;> first | exact absurd hf (by decide) | decide, by cases f <;> first | exact absurd hf (by decide) | decide, v_call (as := [.d x .pl]) (h' := h) rfl rfl q⟩
theorem c_lists [Fn F 26 d26] : ∀ (m : Nat) (x : D), Dat m x → ∀ {f : Fl}, ∃ f2, okF f2 = true ∧ (isSq x = true → f2 = .fr) ∧ callN o G F W (n + 1 + m) 26 [.d x f] h = .ok (listsD x) f2 h := by
  intro m
  induction m with
  | zero =>
    intro x d f
    cases x with
    | list xs => have := d.2.1; simp only [PyData.depth] at this; omega
    | tuple xs => have := d.2.1; simp only [PyData.depth] at this; omega
    | dict kvs => have := d.2.2; simp [smD] at this
    | _ => exact ⟨.pl, rfl, (fun q => nomatch q), c_lists_leaf rfl rfl⟩
  | succ m ih =>
    intro x d f
    have e : n + 1 + (m + 1) = (n + 1 + m) + 1 := by omega
    rw [e]
    cases x with
    | list xs =>
      obtain ⟨q1, q2⟩ := dat_seq (b := true) d
      exact ⟨.fr, rfl, fun _ => rfl, c_lists_seq (b := true) q1 fun x hx => by
        obtain ⟨f2, a, _, b⟩ := ih x (q2 x hx) (f := .pl)
        exact ⟨f2, a, b⟩⟩
    | tuple xs =>
      obtain ⟨q1, q2⟩ := dat_seq (b := false) d
      exact ⟨.fr, rfl, fun _ => rfl, c_lists_seq (b := false) q1 fun x hx => by
        obtain ⟨f2, a, _, b⟩ := ih x (q2 x hx) (f := .pl)
        exact ⟨f2, a, b⟩⟩
    | dict kvs => have := d.2.2; simp [smD] at this
    | _ => exact ⟨.pl, rfl, (fun q => nomatch q), c_lists_leaf rfl rfl⟩
theorem c_lists_fr [Fn F 26 d26] (m : Nat) {x : D} (d : Dat m x) (hs : isSq x = true) {f : Fl} : callN o G F W (n + 1 + m) 26 [.d x f] h = .ok (listsD x) .fr h := by
  obtain ⟨f2, a, b, c⟩ := c_lists (o := o) (G := G) (F := F) (W := W) (n := n) (h := h) m x d (f := f)
  rw [c, b hs]
/-! ### data of encodings -/
theorem dat_int (i : Int) : Dat 0 (.int i) := ⟨by simp [PyData.canLay0], by simp [PyData.depth], rfl⟩
theorem dat_w (w : W3) : Dat 0 (.str (wS w)) := ⟨Enc.lay w, Enc.dp w, rfl⟩
theorem dat_bool (b : Bool) : Dat 0 (.bool b) := ⟨by simp [PyData.canLay0], by simp [PyData.depth], rfl⟩
theorem Dat.mono {m k : Nat} {x : D} (d : Dat m x) (h : m ≤ k) : Dat k x := ⟨d.1, Nat.le_trans d.2.1 h, d.2.2⟩
theorem lay_of : ∀ {xs : List D} {m : Nat}, (∀ x ∈ xs, Dat m x) → PyData.canLayAll0 xs = true ∧ PyData.depthAll xs ≤ m
  | [], m, _ => ⟨by simp [PyData.canLayAll0], by simp [PyData.depthAll]⟩
  | x :: r, m, h => by
    obtain ⟨a, b⟩ := lay_of (xs := r) (m := m) fun y hy => h y (by simp [hy])
    have c := h x (by simp)
    exact ⟨by simp [PyData.canLayAll0, a, c.1], by have := c.2.1; simp only [PyData.depthAll]; omega⟩
theorem dat_sq {m : Nat} (b : Bool) {xs : List D} (hl : xs.length ≤ 1000000) (h : ∀ x ∈ xs, Dat m x) : Dat (m + 1) (sq b xs) := by
  obtain ⟨h1, h2⟩ := lay_of h
  refine ⟨?_, ?_, sm_sq b hl fun x hx => (h x hx).2.2⟩
  · cases b <;> simp only [sq, PyData.canLay0, h1]
  · cases b <;> simp only [sq, PyData.depth] <;> omega
theorem dat_dI (b : Bool) {l : List Int} (hl : l.length ≤ 1000000) : Dat 1 (sq b (dI l)) := dat_sq b (by rw [dI_len]; exact hl) fun x hx => by
  obtain ⟨i, _, rfl⟩ := List.mem_map.mp hx
  exact dat_int i
theorem dat_encB (b : Bool) (c : W3 × Int) : Dat 1 (encB b c) := dat_sq b (by simp) fun x hx => by
  rcases List.mem_cons.mp hx with rfl | hx
  · exact dat_w _
  · rcases List.mem_cons.mp hx with rfl | hx
    · exact dat_int _
    · simp at hx
theorem dat_cs (b1 b2 : Bool) {cs : List (W3 × Int)} (hl : cs.length ≤ 1000000) : Dat 2 (sq b1 (cs.map (encB b2))) := dat_sq b1 (by simpa using hl) fun x hx => by
  obtain ⟨c, _, rfl⟩ := List.mem_map.mp hx
  exact dat_encB b2 c
theorem lists_int (i : Int) : listsD (.int i) = .int i := by simp only [listsD]
theorem lists_str (s : Str) : listsD (.str s) = .str s := by simp only [listsD]
theorem lists_encB (b : Bool) (c : W3 × Int) : listsD (encB b c) = encB true c := by
  unfold encB; rw [lists_sq]; simp only [List.map, lists_int, lists_str]; rfl
theorem lists_cs (b1 b2 : Bool) (cs : List (W3 × Int)) : listsD (sq b1 (cs.map (encB b2))) = sq true (cs.map (encB true)) := by
  rw [lists_sq, List.map_map]
  have : (listsD ∘ encB b2) = encB true := funext fun c => lists_encB b2 c
  rw [this]; rfl
theorem lists_dI (b : Bool) (l : List Int) : listsD (sq b (dI l)) = sq true (dI l) := by
  rw [lists_sq]
  have : (dI l).map listsD = dI l := by
    simp only [dI, List.map_map]
    apply List.map_congr_left
    intro i _
    exact lists_int i
  rw [this]; rfl
end
end Lw

end
section
set_option Elab.async false
set_option linter.all false
set_option maxRecDepth 100000
/-! drawn rows -/
namespace Lw
open PySem Og Og.Enc
section
variable {o : Hist → Int → Int} {G : List D} {F : List Og.Def} {W n : Nat} {h : Hist}
theorem c_of [Fn F 6 d6] (go : GoodO o) {α : Type} {enc : α → D} {l : List α} {f : Fl} (b : Bool) (l0 : l ≠ []) (l1 : l.length ≤ 1000000) (hl : h.length < 1000000) :
    ∃ x ∈ l, callN o G F W (n + 1) 6 [.box, .d (sq b (l.map enc)) f] h = .ok (enc x) .pl ((l.length : Int) :: h) := by
  have hp : 0 < l.length := List.length_pos_iff.mpr l0
  obtain ⟨g1, g2⟩ := go h (l.length : Int) (by omega)
  have hk : (o h (l.length : Int)).toNat < l.length := by omega
  refine ⟨l[(o h (l.length : Int)).toNat], List.getElem_mem hk, ?_⟩
  rw [call_eq 6 rfl]
  refine fn_ret (x_ret ?_ rfl)
  dsimp only [padS, svOf]
  have ht : ev o G (callN o G F W n) (.take (.var 0) (.blt .len (.cons (.var 1) .nil))) false [some .box, some (.d (sq b (l.map enc)))] h = .ok (.int (o h (l.length : Int))) .pl ((l.length : Int) :: h) := by
    refine v_take (f := .pl) rfl ?_ (by omega) (by omega) hl
    dsimp only [Og.exec, ev, evs, tsts, evd, fin, nc, strong, getS, setS, wipeS, padS, svOf, binV, addV, mkI, mkB, strongs, weaks, nearly, steadys, passes, walkV, seqOf, asgT, parS, cmpV, ctOk, boxAt, fnEnd, truD, oi, flG]
    rw [len_sq, List.length_map]
  have e : o h (l.length : Int) = (((o h (l.length : Int)).toNat : Nat) : Int) := by omega
  have hx : (l.map enc)[(o h (l.length : Int)).toNat]? = some (enc l[(o h (l.length : Int)).toNat]) := by simp [hk]
  refine v_sub (x := sq b (l.map enc)) (f := .pl) (h' := h) rfl ht (by decide) rfl ?_
  generalize (l.length : Int) :: h = h2
  have hx2 := fun h2 => subL_nat (h := h2) hx
  rw [← e] at hx2
  cases b <;> exact hx2 h2
/-- a row of so many houses -/
def Row (c : Int) (q : List Int) : Prop := q.Nodup ∧ ∀ x ∈ q, 0 ≤ x ∧ x < c
theorem filt_len {l : List Int} (nd : l.Nodup) {p : Int} (hp : p ∈ l) : (l.filter fun x => !decide (x = p)).length = l.length - 1 := by
  have e : (l.filter fun x => !decide (x = p)) = l.erase p := by
    rw [nd.erase_eq_filter]
    apply List.filter_congr
    intro x _
    by_cases e : x = p <;> simp [e]
  rw [e, List.length_erase_of_mem hp]
theorem c_queue [Fn F 6 d6] [Fn F 11 d11] (go : GoodO o) {c s : Int} {f1 f2 : Fl} (c0 : 0 ≤ s) (c1 : s ≤ c) (c2 : c ≤ 1000) (hl : h.length ≤ 900000) :
    ∃ q h', callN o G F W (n + 2) 11 [.box, .d (.int c) f1, .d (.int s) f2] h = .ok (.tuple (dI q)) .pl h' ∧ Row c q ∧ (q.length : Int) = s ∧ (h'.length : Int) ≤ h.length + 1 + 2 * s := by
  rw [call_eq 11 rfl]
  have hbody : ∀ (L q : List Int) (nr : Int) (x3 x7 : Option SV) (h1 : Hist), L ≠ [] → L.length ≤ 1000 → q.length ≤ 1000 → h1.length < 950000 → L.Nodup → ∃ p ∈ L, ∃ x7' h2, exec o G (callN o G F W (n + 1)) W (.seq (.asg (.nm 7) (.comp (.var 8) [8] (.nm 8) .seq (.cons (.var 4) .nil) (.cons (.or (.cmp .in_ (.bin .sub (.var 8) (.int 1)) (.var 5)) (.cmp .in_ (.bin .add (.var 8) (.int 1)) (.var 5))) .nil))) (.seq (.asg (.nm 7) (.ite (.and (.cmp .eq (.var 6) (.int 0)) (.and (.cmp .ne (.var 7) (.lst .nil)) (.cmp .gt (.take (.var 0) (.int 4)) (.int 0)))) (.var 7) (.var 4))) (.seq (.app 5 (.call 6 (.cons (.var 0) (.cons (.var 7) .nil)))) (.asg (.nm 4) (.comp (.var 8) [8] (.nm 8) .seq (.cons (.var 4) .nil) (.cons (.cmp .ne (.var 8) (.sub (.var 5) (.neg (.int 1)))) .nil))))))
      [some .box, some (.d (.int c)), some (.d (.int s)), x3, some (.d (.list (dI L))), some (.own (.list (dI q))), some (.d (.int nr)), x7, none] h1 = .nx [some .box, some (.d (.int c)), some (.d (.int s)), x3, some (.d (.list (dI (L.filter fun x => !decide (x = p))))), some (.own (.list (dI (q ++ [p])))), some (.d (.int nr)), x7', none] h2 ∧ h2.length ≤ h1.length + 2 := by
    intro L q nr x3 x7 h1 L0 L1 q1 hh nd
    generalize hS : (L.filter fun i => decide (i - 1 ∈ q) || decide (i + 1 ∈ q)) = S1
    have hS1 : ∀ x ∈ S1, x ∈ L := fun x hx => by rw [← hS] at hx; exact (List.mem_filter.mp hx).1
    have hS2 : S1.length ≤ 1000 := by rw [← hS]; exact Nat.le_trans (List.length_filter_le _ _) L1
    have hc1 : ev o G (callN o G F W (n + 1)) (.comp (.var 8) [8] (.nm 8) .seq (.cons (.var 4) .nil) (.cons (.or (.cmp .in_ (.bin .sub (.var 8) (.int 1)) (.var 5)) (.cmp .in_ (.bin .add (.var 8) (.int 1)) (.var 5))) .nil)) false [some .box, some (.d (.int c)), some (.d (.int s)), x3, some (.d (.list (dI L))), some (.own (.list (dI q))), some (.d (.int nr)), x7, none] h1 = .ok (.list (dI S1)) .fr h1 := by
      refine v_comp (as := [.d (.list (dI L)) .pl]) (l := [.list (dI L)]) (ys := dI L) (h' := h1) rfl rfl rfl ?_ (by rw [dI_len]; omega)
      rw [← hS]
      refine comp_ints fun i hi => ⟨⟨.pl, ?_⟩, fun _ => ⟨.pl, by decide, by decide, rfl⟩⟩
      dsimp only [Og.exec, ev, evs, tsts, evd, fin, nc, strong, getS, setS, wipeS, padS, svOf, binV, addV, mkI, mkB, strongs, weaks, nearly, steadys, passes, walkV, seqOf, asgT, parS, cmpV, ctOk, boxAt, fnEnd, truD, oi, flG]
      simp only [cIn_lstI]
      cases decide (i - 1 ∈ q) <;> cases decide (i + 1 ∈ q) <;> rfl
    have hc2 : ∃ S2 h2 f, okF f = true ∧ S2 ≠ [] ∧ S2.length ≤ 1000 ∧ (∀ x ∈ S2, x ∈ L) ∧ h2.length ≤ h1.length + 1 ∧ ev o G (callN o G F W (n + 1)) (.ite (.and (.cmp .eq (.var 6) (.int 0)) (.and (.cmp .ne (.var 7) (.lst .nil)) (.cmp .gt (.take (.var 0) (.int 4)) (.int 0)))) (.var 7) (.var 4)) false [some .box, some (.d (.int c)), some (.d (.int s)), x3, some (.d (.list (dI L))), some (.own (.list (dI q))), some (.d (.int nr)), some (.d (.list (dI S1))), none] h1 = .ok (.list (dI S2)) f h2 := by
      by_cases a1 : nr = 0
      · have b1 : ev o G (callN o G F W (n + 1)) (.cmp .eq (.var 6) (.int 0)) true [some .box, some (.d (.int c)), some (.d (.int s)), x3, some (.d (.list (dI L))), some (.own (.list (dI q))), some (.d (.int nr)), some (.d (.list (dI S1))), none] h1 = .ok (.bool true) .pl h1 := by
          dsimp only [Og.exec, ev, evs, tsts, evd, fin, nc, strong, getS, setS, wipeS, padS, svOf, binV, addV, mkI, mkB, strongs, weaks, nearly, steadys, passes, walkV, seqOf, asgT, parS, cmpV, ctOk, boxAt, fnEnd, truD, oi, flG]; rw [cEq_int]; simp [a1]
        by_cases a2 : S1 = []
        · refine ⟨L, h1, .pl, rfl, L0, L1, fun _ hx => hx, by omega, ?_⟩
          refine v_ite0 (f := .pl) (h' := h1) (v_and1 b1 (v_and0 (f := .pl) ?_)) rfl
          dsimp only [Og.exec, ev, evs, tsts, evd, fin, nc, strong, getS, setS, wipeS, padS, svOf, binV, addV, mkI, mkB, strongs, weaks, nearly, steadys, passes, walkV, seqOf, asgT, parS, cmpV, ctOk, boxAt, fnEnd, truD, oi, flG]; rw [cNe_nil (sh_lstI _), a2]; rfl
        · have b2 : ev o G (callN o G F W (n + 1)) (.cmp .ne (.var 7) (.lst .nil)) true [some .box, some (.d (.int c)), some (.d (.int s)), x3, some (.d (.list (dI L))), some (.own (.list (dI q))), some (.d (.int nr)), some (.d (.list (dI S1))), none] h1 = .ok (.bool true) .pl h1 := by
            dsimp only [Og.exec, ev, evs, tsts, evd, fin, nc, strong, getS, setS, wipeS, padS, svOf, binV, addV, mkI, mkB, strongs, weaks, nearly, steadys, passes, walkV, seqOf, asgT, parS, cmpV, ctOk, boxAt, fnEnd, truD, oi, flG]; rw [cNe_nil (sh_lstI _)]
            cases S1 with
            | nil => exact absurd rfl a2
            | cons x r => rfl
          have b3 : ev o G (callN o G F W (n + 1)) (.cmp .gt (.take (.var 0) (.int 4)) (.int 0)) true [some .box, some (.d (.int c)), some (.d (.int s)), x3, some (.d (.list (dI L))), some (.own (.list (dI q))), some (.d (.int nr)), some (.d (.list (dI S1))), none] h1 = .ok (.bool (decide (0 < o h1 4))) .pl (4 :: h1) := by
            refine v_cmp (f := .pl) (x := .int (o h1 4)) (h' := 4 :: h1) ?_ (by decide) (y := .int 0) (f2 := .pl) (h3 := 4 :: h1) rfl rfl (cLt_int _ _)
            exact v_take (f := .pl) rfl rfl (by decide) (by decide) (by omega)
          by_cases a3 : 0 < o h1 4
          · refine ⟨S1, 4 :: h1, .pl, rfl, a2, hS2, hS1, by simp, ?_⟩
            exact v_ite1 (f := .pl) (h' := 4 :: h1) (v_and1 b1 (v_and1 b2 (by rw [b3]; simp [a3]))) rfl
          · refine ⟨L, 4 :: h1, .pl, rfl, L0, L1, fun _ hx => hx, by simp, ?_⟩
            exact v_ite0 (f := .pl) (h' := 4 :: h1) (v_and1 b1 (v_and1 b2 (by rw [b3]; simp [a3]))) rfl
      · refine ⟨L, h1, .pl, rfl, L0, L1, fun _ hx => hx, by omega, ?_⟩
        refine v_ite0 (f := .pl) (h' := h1) (v_and0 (f := .pl) ?_) rfl
        dsimp only [Og.exec, ev, evs, tsts, evd, fin, nc, strong, getS, setS, wipeS, padS, svOf, binV, addV, mkI, mkB, strongs, weaks, nearly, steadys, passes, walkV, seqOf, asgT, parS, cmpV, ctOk, boxAt, fnEnd, truD, oi, flG]; rw [cEq_int]; simp [a1]
    obtain ⟨S2, h2, f, hf, s1, s2, s3, s4, hc2⟩ := hc2
    obtain ⟨p, pm, hp⟩ := c_of (F := F) (G := G) (W := W) (n := n) go (enc := PyData.int) (l := S2) (f := .pl) (h := h2) true s1 (by omega) (by omega)
    refine ⟨p, s3 p pm, some (.d (.list (dI S2))), (S2.length : Int) :: h2, ?_, by simp; omega⟩
    refine x_asg hc1 rfl ?_
    dsimp only [setS]
    refine x_asg hc2 hf ?_
    dsimp only [setS]
    refine x_app (x := .int p) (f := .pl) (h' := (S2.length : Int) :: h2) rfl ?_ rfl (by rw [dI_len]; omega) ?_
    · exact v_call (as := [.box, .d (.list (dI S2)) .pl]) (h' := h2) rfl rfl hp
    dsimp only [setS]
    have ea : dI q ++ [PyData.int p] = dI (q ++ [p]) := by simp [dI]
    rw [ea]
    refine st_asg (x := .list (dI (L.filter fun x => !decide (x = p)))) (f := .fr) ?_ rfl
    refine v_comp (as := [.d (.list (dI L)) .pl]) (l := [.list (dI L)]) (ys := dI L) (h' := (S2.length : Int) :: h2) rfl rfl rfl ?_ (by rw [dI_len]; exact Nat.le_trans (List.length_filter_le _ _) (by omega))
    refine comp_ints fun i hi => ⟨⟨.pl, ?_⟩, fun _ => ⟨.pl, by decide, by decide, rfl⟩⟩
    dsimp only [Og.exec, ev, evs, tsts, evd, fin, nc, strong, getS, setS, wipeS, padS, svOf, binV, addV, mkI, mkB, strongs, weaks, nearly, steadys, passes, walkV, seqOf, asgT, parS, cmpV, ctOk, boxAt, fnEnd, truD, oi, flG, subV]
    rw [← ea]
    simp only [subL_last]
    (try dsimp only [Og.exec, ev, evs, tsts, evd, fin, nc, strong, getS, setS, wipeS, padS, svOf, binV, addV, mkI, mkB, strongs, weaks, nearly, steadys, passes, walkV, seqOf, asgT, parS, cmpV, ctOk, boxAt, fnEnd, truD, oi, flG, subV])
    simp only [cNe_int]
    cases decide (i = p) <;> rfl
  obtain ⟨g1, g2⟩ := go h 3 (by decide)
  have hsc : s.toNat ≤ c.toNat := by omega
  obtain ⟨σ', h', e1, x3, x7, L, q, i1, i2, i3, i4, i5, i6, i7, rfl⟩ := for_inv (h := 3 :: h) (enc := PyData.int) (tg := .nm 3) (b := exec o G (callN o G F W (n + 1)) W (.seq (.asg (.nm 7) (.comp (.var 8) [8] (.nm 8) .seq (.cons (.var 4) .nil) (.cons (.or (.cmp .in_ (.bin .sub (.var 8) (.int 1)) (.var 5)) (.cmp .in_ (.bin .add (.var 8) (.int 1)) (.var 5))) .nil))) (.seq (.asg (.nm 7) (.ite (.and (.cmp .eq (.var 6) (.int 0)) (.and (.cmp .ne (.var 7) (.lst .nil)) (.cmp .gt (.take (.var 0) (.int 4)) (.int 0)))) (.var 7) (.var 4))) (.seq (.app 5 (.call 6 (.cons (.var 0) (.cons (.var 7) .nil)))) (.asg (.nm 4) (.comp (.var 8) [8] (.nm 8) .seq (.cons (.var 4) .nil) (.cons (.cmp .ne (.var 8) (.sub (.var 5) (.neg (.int 1)))) .nil)))))))
    (σ := [some .box, some (.d (.int c)), some (.d (.int s)), none, some (.d (.list (dI (seg 0 c.toNat)))), some (.own (.list (dI []))), some (.d (.int (o h 3))), none, none])
    (fun done σ h2 => ∃ x3 x7 L q, L.Nodup ∧ q.Nodup ∧ (∀ x ∈ L, 0 ≤ x ∧ x < c ∧ x ∉ q) ∧ (∀ x ∈ q, 0 ≤ x ∧ x < c) ∧ L.length = c.toNat - done.length ∧ q.length = done.length ∧ h2.length ≤ h.length + 1 + 2 * done.length ∧ σ = [some .box, some (.d (.int c)), some (.d (.int s)), x3, some (.d (.list (dI L))), some (.own (.list (dI q))), some (.d (.int (o h 3))), x7, none]) (l := seg 0 s.toNat)
    ⟨none, none, seg 0 c.toNat, [], (seg_asc 0 c.toNat).imp fun h => by omega, by simp, fun x hx => by have := mem_seg.mp hx; exact ⟨by omega, by omega, by simp⟩, by simp, by simp [seg_len], by simp, by simp, rfl⟩ (by
      rintro done y rest σ h2 e ⟨x3, x7, L, q, i1, i2, i3, i4, i5, i6, i7, rfl⟩
      have hd : done.length < s.toNat := by
        have := congrArg List.length e
        rw [seg_len] at this; simp at this; omega
      obtain ⟨p, pm, x7', h3, e3, e4⟩ := hbody L q (o h 3) (some (.d (.int y))) x7 h2 (by intro q; rw [q] at i5; simp at i5; omega) (by omega) (by omega) (by omega) i1
      obtain ⟨p1, p2, p3⟩ := i3 p pm
      refine ⟨_, _, h3, rfl, .inl e3, some (.d (.int y)), x7', L.filter fun x => !decide (x = p), q ++ [p], i1.filter _, ?_, ?_, ?_, ?_, by simp; omega, by simp; omega, rfl⟩
      · exact List.nodup_append.mpr ⟨i2, by simp, fun a ha b hb => by simp at hb; subst hb; intro e; subst e; exact p3 ha⟩
      · intro x hx
        obtain ⟨m1, m2⟩ := List.mem_filter.mp hx
        obtain ⟨k1, k2, k3⟩ := i3 x m1
        refine ⟨k1, k2, ?_⟩
        simp at m2 ⊢
        exact ⟨k3, m2⟩
      · intro x hx
        rcases List.mem_append.mp hx with hx | hx
        · exact i4 x hx
        · simp at hx; subst hx; exact ⟨p1, p2⟩
      · rw [filt_len i1 pm, i5]; simp; omega)
  refine ⟨q, h', fn_ret ?_, ⟨i2, i4⟩, by rw [i6, seg_len]; omega, by rw [seg_len] at i7; omega⟩
  dsimp only [padS, svOf]
  have hlr : bltV .listR [.int c] h = .ok (.list (dI (seg 0 c.toNat))) .fr h := by
    have : leI 0 c = true := by rw [leI_dec]; simp; omega
    have h2 : lenOk c.toNat = true := lenOk_of (by omega)
    simp only [bltV, this, h2, Bool.and_self, rng_eq]
  have ht : ev o G (callN o G F W (n + 1)) (.take (.var 0) (.int 3)) false [some .box, some (.d (.int c)), some (.d (.int s)), none, none, none, none, none, none] h = .ok (.int (o h 3)) .pl (3 :: h) := v_take (f := .pl) rfl rfl (by decide) (by decide) (by omega)
  refine x_par (as := [.d (.list (dI (seg 0 c.toNat))) .fr, .d (.list []) .fr, .d (.int (o h 3)) .pl]) (h' := 3 :: h) ?_ rfl ?_
  · refine es_cons rfl (x := .list (dI (seg 0 c.toNat))) (f := .fr) (h' := h) ?_ (es_cons rfl (x := .list []) (f := .fr) (h' := h) rfl (es_cons rfl ht es_nil))
    exact v_blt1 (x := .int c) (f := .pl) rfl rfl (by decide) hlr
  dsimp only [setS]
  refine x_for (as := [.d (.int s) .pl]) (l := [.int s]) (ys := (seg 0 s.toNat).map PyData.int) (h' := 3 :: h) rfl rfl (by simp only [walkV, wide_of (show -4611686018427387904 ≤ s by omega) (by omega)]; rw [rng_eq]; rfl) ⟨_, _, e1, ?_⟩
  exact x_ret (f := .pl) rfl rfl
end
end Lw

end
section
set_option Elab.async false
set_option linter.all false
set_option maxRecDepth 100000
/-! the law k02 -/
namespace Lw
open PySem Og Og.Enc
section
variable {o : Hist → Int → Int} {G : List D} {F : List Og.Def} {W n : Nat} {h : Hist}
theorem picks_valid : ∀ (q : List Int), q.Nodup → Valid 0 (picksM q) ∧ endM 0 (picksM q) = (iv q).length := by
  intro q
  induction q using snoc_rec with
  | nil => intro _; exact ⟨trivial, rfl⟩
  | snoc q p ih =>
    intro nd
    obtain ⟨i1, i2⟩ := ih (List.nodup_append.mp nd).1
    rw [picks_snoc, endM_app, iv_snoc nd]
    have hw := ch_ways (p := p) (iv q)
    refine ⟨valid_app.mpr ⟨i1, by rw [i2]; exact ⟨hw, trivial⟩⟩, ?_⟩
    have := add_len (p := p) (iv q) 0
    simp only [endM, i2]
    omega
theorem holR_nn : ∀ {r : IL} {b : Int}, Ivs b r → ∀ x ∈ holR b r, 0 ≤ x
  | [], b, _, x, hx => by simp [holR] at hx
  | (a, k) :: r, b, ⟨h1, h2⟩, x, hx => by
    rcases List.mem_cons.mp hx with rfl | hx
    · omega
    · exact holR_nn (h2.mono (by omega)) x hx
theorem holR_pos : ∀ {r : IL} {b : Int}, Ivs (b + 1) r → ∀ x ∈ holR b r, 0 < x
  | [], b, _, x, hx => by simp [holR] at hx
  | (a, k) :: r, b, ⟨h1, h2⟩, x, hx => by
    rcases List.mem_cons.mp hx with rfl | hx
    · omega
    · exact holR_pos (h2.mono (by omega)) x hx
theorem holR_len : ∀ (r : IL) (b : Int), (holR b r).length = r.length
  | [], _ => rfl
  | (a, k) :: r, b => by simp [holR, holR_len r]
theorem gaps_ok {q : List Int} {c : Int} (rw_ : Row c q) (c0 : 0 ≤ c) : gapsOk (iv q).length (gapsL c (iv q)) := by
  obtain ⟨nd, hb⟩ := rw_
  have hv := iv_ok nd (lo := 0) fun x hx => (hb x hx).1
  have hm : ∀ x ∈ fl (iv q), x < c := fun x hx => (hb x (mem_iv.mp hx)).2
  rw [gapsL_eq]
  have hlast : lastE 0 (iv q) ≤ c := by
    generalize iv q = r at hv hm
    have key : ∀ {r : IL} {b : Int}, b ≤ c → (∀ x ∈ fl r, x < c) → lastE b r ≤ c := by
      intro r
      induction r with
      | nil => intro b hb _; exact hb
      | cons x r ih =>
        intro b hb hm
        obtain ⟨a, k⟩ := x
        refine ih (b := a + k + 1) ?_ fun x hx => hm x (mem_fl_cons.mpr (.inr hx))
        have := hm (a + k) (mem_fl_cons.mpr (.inl (by omega)))
        omega
    exact key c0 hm
  refine ⟨by simp [holR_len], fun x hx => ?_, fun x hx => ?_⟩
  · rcases List.mem_append.mp hx with hx | hx
    · exact holR_nn hv x hx
    · simp at hx; omega
  · rw [List.length_append, List.length_cons, List.length_nil, Nat.add_sub_cancel, List.take_left'] at hx
    · generalize iv q = r at hv hx
      cases r with
      | nil => simp [holR] at hx
      | cons y r =>
        obtain ⟨a, k⟩ := y
        simp only [holR, List.drop_succ_cons, List.drop_zero] at hx
        exact holR_pos (hv.2.mono (by omega)) x hx
    · rfl
theorem iv_le (q : List Int) : (iv q).length ≤ q.length := by
  have := ivs_len (srtI q); rw [srtI_len] at this; exact this
theorem row_len {c : Int} {q : List Int} (s : Int) (hq : (q.length : Int) = s) (h : s ≤ 16) : q.length ≤ 16 := by omega
theorem c_right02 [Fn F 0 d0] [Fn F 2 d2] [Fn F 6 d6] [Fn F 7 d7] [Fn F 9 d9] [Fn F 11 d11] [Fn F 15 d15] [Fn F 16 d16] [Fn F 17 d17] [Fn F 18 d18] [Fn F 19 d19] [Fn F 20 d20] [Fn F 21 d21] [Fn F 22 d22] [Fn F 23 d23] [Fn F 24 d24] [Fn F 25 d25] [Fn F 26 d26] [Fn F 27 d27] [Fn F 28 d28] [Fn F 29 d29] [Fn F 30 d30] [Gc G 0 wordsD] [Gc G 1 stepsD]
    (go : GoodO o) (hl : h.length ≤ 600000) : ∃ h', callN o G F W (n + 10) 30 [.box] h = .ok (.bool true) .pl h' ∧ h'.length ≤ h.length + 100000 := by
  obtain ⟨c0, c1⟩ := go h 17 (by decide)
  generalize hc : o h 17 = c at c0 c1
  obtain ⟨s0, s1⟩ := go (17 :: h) (c + 1) (by omega)
  generalize hs : o (17 :: h) (c + 1) = s at s0 s1
  obtain ⟨q, h2, eq, rw_, ql, hh⟩ := c_queue (n := n + 7) (G := G) (F := F) (W := W) (o := o) (h := (c + 1) :: 17 :: h) (f1 := .pl) (f2 := .pl) go s0 (show s ≤ c by omega) (by omega) (by simp; omega)
  have q16 : q.length ≤ 16 := by omega
  obtain ⟨nd, hb⟩ := id rw_
  obtain ⟨v1, v2⟩ := picks_valid q nd
  have hg := gaps_ok rw_ c0
  have hil := iv_le q
  refine ⟨h2, ?_, by simp at hh; omega⟩
  rw [call_eq 30 rfl]
  refine fn_ret ?_
  dsimp only [padS, svOf]
  refine x_asg (x := .int c) (f := .pl) (h' := 17 :: h) ?_ rfl ?_
  · rw [← hc]; exact v_take (f := .pl) rfl rfl (by decide) (by decide) (by omega)
  dsimp only [setS]
  refine x_asg (x := .tuple (dI q)) (f := .pl) (h' := h2) ?_ rfl ?_
  · refine v_call (as := [.box, .d (.int c) .pl, .d (.int s) .pl]) (h' := (c + 1) :: 17 :: h) ?_ rfl eq
    refine es_box rfl (es_cons rfl (x := .int c) (f := .pl) (h' := 17 :: h) rfl (es_cons rfl (x := .int s) (f := .pl) (h' := (c + 1) :: 17 :: h) ?_ es_nil))
    rw [← hs]
    exact v_take (f := .pl) rfl rfl (by omega) (by omega) (by simp; omega)
  dsimp only [setS]
  have epk : callN o G F W (n + 9) 28 [.d (.tuple (dI q)) .pl] h2 = .ok (sq false ((picksM q).map (encB false))) .pl h2 := c_picks (n := n + 6) (by omega) nd
  have ehl : callN o G F W (n + 9) 29 [.d (.int c) .pl, .d (.tuple (dI q)) .pl] h2 = .ok (sq false (dI (gapsL c (iv q)))) .pl h2 := c_holes (n := n + 7) (by omega)
  have ech : ∀ b f, callN o G F W (n + 9) 22 [.d (sq b (dI q)) f] h2 = .ok (sq false ((picksM q).map (encB false))) .pl h2 := fun b f => by
    rw [← chs_eq nd]; exact c_choices_of (n := n + 6) b (by omega)
  have ega : ∀ b f1 f2, callN o G F W (n + 9) 23 [.d (.int c) f1, .d (sq b (dI q)) f2] h2 = .ok (sq false (dI (gapsL c (iv q)))) .pl h2 := fun b f1 f2 => c_gaps_of (n := n + 8) b nd hb c0 (by omega)
  have hpl := picks_len q
  have hgl : (gapsL c (iv q)).length ≤ 1000 := by rw [hg.1]; omega
  have dpk : Dat 2 (sq false ((picksM q).map (encB false))) := dat_cs false false (by omega)
  have dgs : Dat 1 (sq false (dI (gapsL c (iv q)))) := dat_dI false (by omega)
  have dqq : Dat 1 (sq false (dI q)) := dat_dI false (by omega)
  have er : ∀ b1 b2 b3 f1 f2, callN o G F W (n + 9) 25 [.d (sq b1 ((picksM q).map (encB b2))) f1, .d (sq b3 (dI (gapsL c (iv q)))) f2] h2 = .ok (sq false (dI q)) .pl h2 := fun b1 b2 b3 f1 f2 => by
    have := c_row_of (o := o) (G := G) (F := F) (W := W) (n := n + 7) (h := h2) (cs := picksM q) (gs := gapsL c (iv q)) (f1 := f1) (f2 := f2) b1 b2 b3 v1 (by rw [v2, hg.1]; omega) (by omega)
    rw [row_back nd] at this
    exact this
  have els : callN o G F W (n + 9) 26 [.d (sq false ((picksM q).map (encB false))) .pl] h2 = .ok (sq true ((picksM q).map (encB true))) .fr h2 := by
    have := c_lists_fr (o := o) (G := G) (F := F) (W := W) (n := n + 6) (h := h2) (f := .pl) 2 dpk rfl
    rw [lists_cs] at this
    exact this
  have eis : callN o G F W (n + 9) 17 [.d (sq false ((picksM q).map (encB false))) .pl] h2 = .ok (.bool true) .pl h2 := c_is_choices (n := n + 6) v1
  have eig : ∀ b1 b2, callN o G F W (n + 9) 19 [.d (sq b1 ((picksM q).map (encB b2))) .pl, .d (sq false (dI (gapsL c (iv q)))) .pl] h2 = .ok (.bool true) .pl h2 := fun b1 b2 => c_is_gaps (n := n + 7) b1 b2 v1 (by omega) (by rw [v2]; exact hg)
  have esm : ∀ x, Dat 3 x → callN o G F W (n + 9) 7 [.d x .pl, .d x .fr] h2 = .ok (.bool true) .pl h2 := fun x d => c_same (n := n + 5) 3 x d
  have dtwo : ∀ x, Dat 2 x → Dat 3 (.list [x, x]) := fun x d => dat_sq true (by simp) fun y hy => by
    rcases List.mem_cons.mp hy with rfl | hy
    · exact d
    · rcases List.mem_cons.mp hy with rfl | hy
      · exact d
      · simp at hy
  have hs6 : bltV .list [.tuple (dI q)] h2 = .ok (sq true (dI q)) .fr h2 := rfl
  have hs7 : bltV .list [sq false (dI (gapsL c (iv q)))] h2 = .ok (sq true (dI (gapsL c (iv q)))) .fr h2 := rfl
  have eqA : cEq (sq true (dI q)) (sq true (dI q)) h2 = .ok (.bool true) .pl h2 := cEq_dat (dat_dI true (l := q) (by omega)) (by decide)
  have eqB : cEq (sq true ((picksM q).map (encB true))) (sq true ((picksM q).map (encB true))) h2 = .ok (.bool true) .pl h2 := cEq_dat (dat_cs true true (cs := picksM q) (by omega)) (by decide)
  have er1 := er false false false .pl .pl
  have er2 := er true true true .fr .pl
  have er3 := er true true true .pl .fr
  have eg1 := eig false false
  have eg2 := eig true true
  clear er eig
  generalize sq false ((picksM q).map (encB false)) = PK at *
  generalize gapsL c (iv q) = GS at *
  refine x_par (as := [.d (sq true (dI q)) .fr, .d PK .pl]) (h' := h2) ?_ rfl ?_
  · refine es_cons rfl (x := sq true (dI q)) (f := .fr) (h' := h2) (v_blt1 (x := .tuple (dI q)) (f := .pl) rfl rfl (by decide) hs6) (es_cons rfl (x := PK) (f := .pl) (h' := h2) ?_ es_nil)
    exact v_call (as := [.d (.tuple (dI q)) .pl]) (h' := h2) rfl rfl epk
  dsimp only [setS]
  refine x_asg (x := sq false (dI GS)) (f := .pl) (h' := h2) (v_call (as := [.d (.int c) .pl, .d (.tuple (dI q)) .pl]) (h' := h2) rfl rfl ehl) rfl ?_
  dsimp only [setS]
  refine x_asg (x := .list [PK, PK]) (f := .fr) (h' := h2) ?_ rfl ?_
  · refine v_lst (as := [.d PK .pl, .d PK .pl]) ?_ rfl
    refine es_cons rfl (v_call (as := [.d (.tuple (dI q)) .pl]) (h' := h2) rfl rfl (ech false .pl)) (es_cons rfl (v_callk (as := [.d (sq true (dI q)) .pl]) (bs := [.d (sq true (dI q)) .pl]) (h' := h2) rfl rfl rfl (ech true .pl)) es_nil)
  dsimp only [setS]
  refine x_sif0 (f := .pl) (h' := h2) (v_not (b := true) (f := .pl) (t_call (as := [.d (.list [PK, PK]) .pl, .d (.list [PK, PK]) .fr]) (h' := h2) rfl rfl (esm _ (dtwo _ dpk)))) ?_
  refine x_asg (x := .list [sq false (dI GS), sq false (dI GS)]) (f := .fr) (h' := h2) ?_ rfl ?_
  · refine v_lst (as := [.d (sq false (dI GS)) .pl, .d (sq false (dI GS)) .pl]) ?_ rfl
    refine es_cons rfl (v_call (as := [.d (.int c) .pl, .d (.tuple (dI q)) .pl]) (h' := h2) rfl rfl (ega false .pl .pl)) (es_cons rfl (v_callk (as := [.d (sq true (dI q)) .pl, .d (.int c) .pl]) (bs := [.d (.int c) .pl, .d (sq true (dI q)) .pl]) (h' := h2) rfl rfl rfl (ega true .pl .pl)) es_nil)
  dsimp only [setS]
  refine x_sif0 (f := .pl) (h' := h2) (v_not (b := true) (f := .pl) (t_call (as := [.d (.list [sq false (dI GS), sq false (dI GS)]) .pl, .d (.list [sq false (dI GS), sq false (dI GS)]) .fr]) (h' := h2) rfl rfl (esm _ (dtwo _ (dgs.mono (by decide)))))) ?_
  refine x_asg (x := sq true ((picksM q).map (encB true))) (f := .fr) (h' := h2) (v_call (as := [.d PK .pl]) (h' := h2) rfl rfl els) rfl ?_
  dsimp only [setS]
  refine x_asg (x := .list [sq false (dI q), sq false (dI q)]) (f := .fr) (h' := h2) ?_ rfl ?_
  · refine v_lst (as := [.d (sq false (dI q)) .pl, .d (sq false (dI q)) .pl]) ?_ rfl
    refine es_cons rfl (v_call (as := [.d PK .pl, .d (sq false (dI GS)) .pl]) (h' := h2) rfl rfl er1) (es_cons rfl (v_callk (as := [.d (sq true (dI GS)) .fr, .d (sq true ((picksM q).map (encB true))) .pl]) (bs := [.d (sq true ((picksM q).map (encB true))) .pl, .d (sq true (dI GS)) .fr]) (h' := h2) ?_ rfl rfl er3) es_nil)
    exact es_cons rfl (v_blt1 (x := sq false (dI GS)) (f := .pl) rfl rfl (by decide) hs7) (es_cons rfl (x := sq true ((picksM q).map (encB true))) (f := .pl) rfl es_nil)
  dsimp only [setS]
  refine x_sif0 (f := .pl) (h' := h2) (v_not (b := true) (f := .pl) (t_call (as := [.d (.list [sq false (dI q), sq false (dI q)]) .pl, .d (.list [sq false (dI q), sq false (dI q)]) .fr]) (h' := h2) rfl rfl (esm _ (dtwo _ (dqq.mono (by decide)))))) ?_
  refine x_sif0 (f := .pl) (h' := h2) ?_ ?_
  · refine v_or0 (f := .pl) (h' := h2) (v_cmp (f := .pl) (h' := h2) (v_call (as := [.d PK .pl]) (h' := h2) rfl rfl eis) (by decide) (y := .bool true) (f2 := .pl) (h3 := h2) rfl rfl rfl) ?_
    refine v_or0 (f := .pl) (h' := h2) (v_cmp (f := .pl) (h' := h2) (v_call (as := [.d PK .pl, .d (sq false (dI GS)) .pl]) (h' := h2) rfl rfl eg1) (by decide) (y := .bool true) (f2 := .pl) (h3 := h2) rfl rfl rfl) ?_
    exact v_cmp (f := .pl) (h' := h2) (v_call (as := [.d (sq true ((picksM q).map (encB true))) .pl, .d (sq false (dI GS)) .pl]) (h' := h2) rfl rfl eg2) (by decide) (y := .bool true) (f2 := .pl) (h3 := h2) rfl rfl rfl
  refine x_ret (f := .pl) ?_ rfl
  refine v_and1 (f := .pl) (h' := h2) (v_cmp (x := sq true (dI q)) (f := .pl) (h' := h2) rfl (by decide) (v_blt1 (x := .tuple (dI q)) (f := .pl) rfl rfl (by decide) hs6) rfl eqA) ?_
  exact v_cmp (x := sq true ((picksM q).map (encB true))) (f := .pl) (h' := h2) rfl (by decide) (v_call (as := [.d PK .pl]) (h' := h2) rfl rfl els) rfl eqB
end
end Lw

end
set_option Elab.async false
set_option linter.all false
set_option maxRecDepth 100000
set_option maxHeartbeats 0
namespace Lz
open PySem PySem.Spec PyProof.Rows L2 Og
def top (i : Nat) : Stmt := PySem.Challenge.pw_onlygroups_k02_choices_and_gaps_of_rows.main.body.getD i (.Pass ⟨0, 0, 0, 0⟩)
def consts : List Og.D := [(.tuple [(.str "beside"), (.str "between"), (.str "new")]), (.dict [((.str "beside"), (.int 0)), ((.str "between"), (.int (-1))), ((.str "new"), (.int 1))])]
/-- is_number -/
def b0 : Og.S := (.ret (.and (.blt .isInt (.cons (.var 0) .nil)) (.not (.blt .isBool (.cons (.var 0) .nil)))))
/-- neighbours -/
def b2 : Og.S := (.ret (.blt .len (.cons (.comp (.var 2) [2] (.nm 2) .seq (.cons (.tup (.cons (.bin .sub (.var 0) (.int 1)) (.cons (.bin .add (.var 0) (.int 1)) .nil))) .nil) (.cons (.cmp .in_ (.var 2) (.var 1)) .nil)) .nil)))
/-- ways -/
def b15 : Og.S := (.seq (.ifs (.cmp .eq (.var 0) (.str "new")) (.ret (.bin .add (.var 1) (.int 1))) .skip) (.ret (.ite (.cmp .eq (.var 0) (.str "beside")) (.bin .mul (.int 2) (.var 1)) (.blt .max2 (.cons (.int 0) (.cons (.bin .sub (.var 1) (.int 1)) .nil))))))
/-- is_choice -/
def b16 : Og.S := (.seq (.ifs (.or (.not (.blt .isTuple (.cons (.var 0) .nil))) (.or (.cmp .ne (.blt .len (.cons (.var 0) .nil)) (.int 2)) (.or (.not (.blt .isStr (.cons (.sub (.var 0) (.int 0)) .nil))) (.cmp .nin (.sub (.var 0) (.int 0)) (.glo 0))))) (.ret (.bl false)) .skip) (.ret (.and (.call 0 (.cons (.sub (.var 0) (.int 1)) .nil)) (.chn .le .lt (.int 0) (.sub (.var 0) (.int 1)) (.call 15 (.cons (.sub (.var 0) (.int 0)) (.cons (.var 1) .nil)))))))
/-- is_choices -/
def b17 : Og.S := (.seq (.ifs (.not (.blt .isTuple (.cons (.var 0) .nil))) (.ret (.bl false)) .skip) (.seq (.asg (.nm 1) (.int 0)) (.seq (.for_ (.nm 2) .seq (.cons (.var 0) .nil) (.seq (.ifs (.not (.call 16 (.cons (.var 2) (.cons (.var 1) .nil)))) (.ret (.bl false)) .skip) (.aug 1 .add (.sub (.glo 1) (.sub (.var 2) (.int 0)))))) (.ret (.bl true)))))
/-- count_groups -/
def b18 : Og.S := (.ret (.blt .sum (.cons (.comp (.sub (.glo 1) (.var 1)) [1, 2] (.cons (.nm 1) (.cons (.nm 2) .nil)) .seq (.cons (.var 0) .nil) .nil) .nil)))
/-- is_gaps -/
def b19 : Og.S := (.seq (.ifs (.or (.not (.blt .isTuple (.cons (.var 1) .nil))) (.cmp .ne (.blt .len (.cons (.var 1) .nil)) (.bin .add (.call 18 (.cons (.var 0) .nil)) (.int 1)))) (.ret (.bl false)) .skip) (.ret (.and (.blt .all (.cons (.comp (.and (.call 0 (.cons (.var 2) .nil)) (.cmp .ge (.var 2) (.int 0))) [2] (.nm 2) .seq (.cons (.var 1) .nil) .nil) .nil)) (.blt .all (.cons (.comp (.cmp .gt (.var 2) (.int 0)) [2] (.nm 2) .seq (.cons (.slc (.var 1) (.cons (.int 1) .nil) (.cons (.neg (.int 1)) .nil)) .nil) .nil) .nil)))))
/-- starts -/
def b20 : Og.S := (.ret (.comp (.var 1) [1] (.nm 1) .seq (.cons (.blt .sorted (.cons (.var 0) .nil)) .nil) (.cons (.cmp .nin (.bin .sub (.var 1) (.int 1)) (.var 0)) .nil)))
/-- choice_of -/
def b21 : Og.S := (.seq (.asg (.nm 2) (.blt .len (.cons (.comp (.var 4) [4] (.nm 4) .seq (.cons (.call 20 (.cons (.var 1) .nil)) .nil) (.cons (.cmp .lt (.var 4) (.var 0)) .nil)) .nil))) (.seq (.asg (.nm 3) (.call 2 (.cons (.var 0) (.cons (.var 1) .nil)))) (.seq (.ifs (.cmp .eq (.var 3) (.int 0)) (.ret (.tup (.cons (.str "new") (.cons (.var 2) .nil)))) .skip) (.seq (.ifs (.cmp .eq (.var 3) (.int 2)) (.ret (.tup (.cons (.str "between") (.cons (.bin .sub (.var 2) (.int 1)) .nil)))) .skip) (.ret (.tup (.cons (.str "beside") (.cons (.ite (.cmp .in_ (.bin .sub (.var 0) (.int 1)) (.var 1)) (.bin .add (.bin .mul (.int 2) (.bin .sub (.var 2) (.int 1))) (.int 1)) (.bin .mul (.int 2) (.var 2))) .nil))))))))
/-- choices_of -/
def b22 : Og.S := (.ret (.blt .tuple (.cons (.comp (.call 21 (.cons (.var 2) (.cons (.slc (.var 0) .nil (.cons (.var 1) .nil)) .nil))) [1, 2] (.cons (.nm 1) (.cons (.nm 2) .nil)) .enum (.cons (.var 0) .nil) .nil) .nil)))
/-- gaps_of -/
def b23 : Og.S := (.seq (.par [(3, true), (4, false)] (.cons (.lst .nil) (.cons (.int 0) .nil))) (.seq (.for_ (.nm 2) .rng1 (.cons (.var 0) .nil) (.ifs (.cmp .nin (.var 2) (.var 1)) (.aug 4 .add (.int 1)) (.ifs (.cmp .nin (.bin .sub (.var 2) (.int 1)) (.var 1)) (.seq (.app 3 (.var 4)) (.asg (.nm 4) (.int 0))) .skip))) (.ret (.blt .tuple (.cons (.bin .add (.var 3) (.lst (.cons (.var 4) .nil))) .nil)))))
/-- grown -/
def b24 : Og.S := (.seq (.asg (.cons (.nm 5) (.cons (.nm 6) .nil)) (.var 2)) (.seq (.ifs (.cmp .eq (.var 5) (.str "new")) (.ret (.bin .add (.bin .add (.slc (.var 0) .nil (.cons (.var 6) .nil)) (.lst (.cons (.lst (.cons (.var 1) .nil)) .nil))) (.slc (.var 0) (.cons (.var 6) .nil) .nil))) .skip) (.seq (.ifs (.cmp .eq (.var 5) (.str "between")) (.ret (.bin .add (.bin .add (.slc (.var 0) .nil (.cons (.var 6) .nil)) (.lst (.cons (.bin .add (.bin .add (.sub (.var 0) (.var 6)) (.lst (.cons (.var 1) .nil))) (.sub (.var 0) (.bin .add (.var 6) (.int 1)))) .nil))) (.slc (.var 0) (.cons (.bin .add (.var 6) (.int 2)) .nil) .nil))) .skip) (.seq (.asg (.nm 3) (.bin .fdiv (.var 6) (.int 2))) (.seq (.asg (.nm 4) (.ite (.cmp .eq (.bin .mod (.var 6) (.int 2)) (.int 0)) (.bin .add (.lst (.cons (.var 1) .nil)) (.sub (.var 0) (.var 3))) (.bin .add (.sub (.var 0) (.var 3)) (.lst (.cons (.var 1) .nil))))) (.ret (.bin .add (.bin .add (.slc (.var 0) .nil (.cons (.var 3) .nil)) (.lst (.cons (.var 4) .nil))) (.slc (.var 0) (.cons (.bin .add (.var 3) (.int 1)) .nil) .nil))))))))
/-- row_of -/
def b25 : Og.S := (.seq (.asg (.nm 2) (.lst .nil)) (.seq (.for_ (.cons (.nm 3) (.cons (.nm 4) .nil)) .enum (.cons (.var 0) .nil) (.asg (.nm 2) (.call 24 (.cons (.var 2) (.cons (.var 3) (.cons (.var 4) .nil)))))) (.seq (.par [(5, true), (6, false)] (.cons (.bin .mul (.lst (.cons (.int 0) .nil)) (.blt .len (.cons (.var 0) .nil))) (.cons (.int 0) .nil))) (.seq (.for_ (.cons (.nm 7) (.cons (.nm 8) .nil)) .enum (.cons (.var 2) .nil) (.seq (.aug 6 .add (.sub (.var 1) (.var 7))) (.for_ (.nm 3) .seq (.cons (.var 8) .nil) (.seq (.setsub 5 (.var 3) (.var 6)) (.aug 6 .add (.int 1)))))) (.ret (.blt .tuple (.cons (.var 5) .nil)))))))
/-- _law_of -/
def b6 : Og.S := (.ret (.sub (.var 1) (.take (.var 0) (.blt .len (.cons (.var 1) .nil)))))
/-- _law_same -/
def b7 : Og.S := (.seq (.ifs (.blt .isSeq (.cons (.var 1) .nil)) (.seq (.ifs (.or (.cmp .ne (.blt .isList (.cons (.var 0) .nil)) (.blt .isList (.cons (.var 1) .nil))) (.cmp .ne (.blt .isTuple (.cons (.var 0) .nil)) (.blt .isTuple (.cons (.var 1) .nil)))) (.ret (.bl false)) .skip) (.ret (.and (.cmp .eq (.blt .len (.cons (.var 0) .nil)) (.blt .len (.cons (.var 1) .nil))) (.blt .all (.cons (.comp (.call 7 (.cons (.var 2) (.cons (.var 3) .nil))) [2, 3] (.cons (.nm 2) (.cons (.nm 3) .nil)) .zip (.cons (.var 0) (.cons (.var 1) .nil)) .nil) .nil))))) .skip) (.seq (.ifs (.or (.cmp .is_ (.var 1) .non) (.blt .isBoolStr (.cons (.var 1) .nil))) (.ret (.and (.cmp .eq (.var 0) (.var 1)) (.and (.cmp .eq (.blt .isBool (.cons (.var 0) .nil)) (.blt .isBool (.cons (.var 1) .nil))) (.cmp .eq (.cmp .is_ (.var 0) .non) (.cmp .is_ (.var 1) .non))))) .skip) (.ret (.and (.blt .isInt (.cons (.var 0) .nil)) (.and (.not (.blt .isBool (.cons (.var 0) .nil))) (.cmp .eq (.var 0) (.var 1)))))))
/-- _law_lists -/
def b26 : Og.S := (.ret (.ite (.blt .isSeq (.cons (.var 0) .nil)) (.comp (.call 26 (.cons (.var 1) .nil)) [1] (.nm 1) .seq (.cons (.var 0) .nil) .nil) (.var 0)))
/-- _law_runs -/
def b9 : Og.S := (.seq (.own 1 (.lst .nil)) (.seq (.for_ (.nm 2) .seq (.cons (.blt .sorted (.cons (.var 0) .nil)) .nil) (.ifs (.and (.cmp .ne (.var 1) (.lst .nil)) (.cmp .eq (.sub (.sub (.var 1) (.neg (.int 1))) (.neg (.int 1))) (.bin .sub (.var 2) (.int 1)))) (.seq (.popTo 3 1) (.app 1 (.bin .add (.var 3) (.lst (.cons (.var 2) .nil))))) (.app 1 (.lst (.cons (.var 2) .nil))))) (.retOwn 1)))
/-- _law_queue -/
def b11 : Og.S := (.seq (.par [(4, false), (5, true), (6, false)] (.cons (.blt .listR (.cons (.var 1) .nil)) (.cons (.lst .nil) (.cons (.take (.var 0) (.int 3)) .nil)))) (.seq (.for_ (.nm 3) .rng1 (.cons (.var 2) .nil) (.seq (.asg (.nm 7) (.comp (.var 8) [8] (.nm 8) .seq (.cons (.var 4) .nil) (.cons (.or (.cmp .in_ (.bin .sub (.var 8) (.int 1)) (.var 5)) (.cmp .in_ (.bin .add (.var 8) (.int 1)) (.var 5))) .nil))) (.seq (.asg (.nm 7) (.ite (.and (.cmp .eq (.var 6) (.int 0)) (.and (.cmp .ne (.var 7) (.lst .nil)) (.cmp .gt (.take (.var 0) (.int 4)) (.int 0)))) (.var 7) (.var 4))) (.seq (.app 5 (.call 6 (.cons (.var 0) (.cons (.var 7) .nil)))) (.asg (.nm 4) (.comp (.var 8) [8] (.nm 8) .seq (.cons (.var 4) .nil) (.cons (.cmp .ne (.var 8) (.sub (.var 5) (.neg (.int 1)))) .nil))))))) (.ret (.blt .tuple (.cons (.var 5) .nil)))))
/-- _law_pick_of -/
def b27 : Og.S := (.seq (.asg (.nm 2) (.call 9 (.cons (.var 1) .nil))) (.seq (.asg (.nm 3) (.blt .len (.cons (.comp (.var 5) [5] (.nm 5) .seq (.cons (.var 2) .nil) (.cons (.cmp .lt (.sub (.var 5) (.neg (.int 1))) (.var 0)) .nil)) .nil))) (.seq (.asg (.nm 4) (.comp (.var 6) [6, 5] (.cons (.nm 6) (.cons (.nm 5) .nil)) .enum (.cons (.var 2) .nil) (.cons (.or (.cmp .eq (.bin .sub (.var 0) (.int 1)) (.sub (.var 5) (.neg (.int 1)))) (.cmp .eq (.bin .add (.var 0) (.int 1)) (.sub (.var 5) (.int 0)))) .nil))) (.seq (.ifs (.cmp .eq (.var 4) (.lst .nil)) (.ret (.tup (.cons (.str "new") (.cons (.var 3) .nil)))) .skip) (.seq (.ifs (.cmp .eq (.blt .len (.cons (.var 4) .nil)) (.int 2)) (.ret (.tup (.cons (.str "between") (.cons (.sub (.var 4) (.int 0)) .nil)))) .skip) (.ret (.tup (.cons (.str "beside") (.cons (.bin .add (.bin .mul (.int 2) (.sub (.var 4) (.int 0))) (.blt .int1 (.cons (.cmp .lt (.sub (.sub (.var 2) (.sub (.var 4) (.int 0))) (.neg (.int 1))) (.var 0)) .nil))) .nil)))))))))
/-- _law_picks -/
def b28 : Og.S := (.ret (.blt .tuple (.cons (.comp (.call 27 (.cons (.var 2) (.cons (.slc (.var 0) .nil (.cons (.var 1) .nil)) .nil))) [1, 2] (.cons (.nm 1) (.cons (.nm 2) .nil)) .enum (.cons (.var 0) .nil) .nil) .nil)))
/-- _law_holes -/
def b29 : Og.S := (.seq (.par [(3, false), (4, true), (5, false)] (.cons (.call 9 (.cons (.var 1) .nil)) (.cons (.lst .nil) (.cons (.int 0) .nil)))) (.seq (.for_ (.nm 2) .seq (.cons (.var 3) .nil) (.seq (.app 4 (.bin .sub (.sub (.var 2) (.int 0)) (.var 5))) (.asg (.nm 5) (.bin .add (.sub (.var 2) (.neg (.int 1))) (.int 1))))) (.ret (.blt .tuple (.cons (.bin .add (.var 4) (.lst (.cons (.bin .sub (.var 0) (.var 5)) .nil))) .nil)))))
/-- _law_right -/
def b30 : Og.S := (.seq (.asg (.nm 1) (.take (.var 0) (.int 17))) (.seq (.asg (.nm 2) (.call 11 (.cons (.var 0) (.cons (.var 1) (.cons (.take (.var 0) (.bin .add (.var 1) (.int 1))) .nil))))) (.seq (.par [(6, false), (7, false)] (.cons (.blt .list (.cons (.var 2) .nil)) (.cons (.call 28 (.cons (.var 2) .nil)) .nil))) (.seq (.asg (.nm 3) (.call 29 (.cons (.var 1) (.cons (.var 2) .nil)))) (.seq (.asg (.nm 4) (.lst (.cons (.call 22 (.cons (.var 2) .nil)) (.cons (.callk 22 [0] (.cons (.var 6) .nil)) .nil)))) (.seq (.ifs (.not (.call 7 (.cons (.var 4) (.cons (.lst (.cons (.var 7) (.cons (.var 7) .nil))) .nil)))) (.ret (.bl false)) .skip) (.seq (.asg (.nm 4) (.lst (.cons (.call 23 (.cons (.var 1) (.cons (.var 2) .nil))) (.cons (.callk 23 [1, 0] (.cons (.var 6) (.cons (.var 1) .nil))) .nil)))) (.seq (.ifs (.not (.call 7 (.cons (.var 4) (.cons (.lst (.cons (.var 3) (.cons (.var 3) .nil))) .nil)))) (.ret (.bl false)) .skip) (.seq (.asg (.nm 5) (.call 26 (.cons (.var 7) .nil))) (.seq (.asg (.nm 4) (.lst (.cons (.call 25 (.cons (.var 7) (.cons (.var 3) .nil))) (.cons (.callk 25 [1, 0] (.cons (.blt .list (.cons (.var 3) .nil)) (.cons (.var 5) .nil))) .nil)))) (.seq (.ifs (.not (.call 7 (.cons (.var 4) (.cons (.lst (.cons (.var 2) (.cons (.var 2) .nil))) .nil)))) (.ret (.bl false)) .skip) (.seq (.ifs (.or (.cmp .isn (.call 17 (.cons (.var 7) .nil)) (.bl true)) (.or (.cmp .isn (.call 19 (.cons (.var 7) (.cons (.var 3) .nil))) (.bl true)) (.cmp .isn (.call 19 (.cons (.var 5) (.cons (.var 3) .nil))) (.bl true)))) (.ret (.bl false)) .skip) (.ret (.and (.cmp .eq (.var 6) (.blt .list (.cons (.var 2) .nil))) (.cmp .eq (.var 5) (.call 26 (.cons (.var 7) .nil)))))))))))))))))
def tx : Tx := ⟨[⟨"is_number", ["thing"], ["thing"], defArgs (top 1), defBody (top 1), defScope (top 1), b0, true⟩,
  noF,
  ⟨"neighbours", ["plot", "there"], ["plot", "there", "other"], defArgs (top 2), defBody (top 2), defScope (top 2), b2, true⟩,
  noF,
  noF,
  noF,
  ⟨"_law_of", ["_law_box_here", "_law_some"], ["_law_box_here", "_law_some"], defArgs (top 21), defBody (top 21), defScope (top 21), b6, true⟩,
  ⟨"_law_same", ["_law_found", "_law_due"], ["_law_found", "_law_due", "_law_a", "_law_b"], defArgs (top 22), defBody (top 22), defScope (top 22), b7, true⟩,
  noF,
  ⟨"_law_runs", ["_law_there"], ["_law_there", "_law_found", "_law_plot", "_law_some"], defArgs (top 24), defBody (top 24), defScope (top 24), b9, true⟩,
  noF,
  ⟨"_law_queue", ["_law_box_here", "_law_count", "_law_size"], ["_law_box_here", "_law_count", "_law_size", "_law_spot", "_law_left", "_law_found", "_law_near", "_law_some", "_law_plot"], defArgs (top 25), defBody (top 25), defScope (top 25), b11, true⟩,
  noF,
  noF,
  noF,
  ⟨"ways", ["word", "many"], ["word", "many"], defArgs (top 6), defBody (top 6), defScope (top 6), b15, true⟩,
  ⟨"is_choice", ["thing", "many"], ["thing", "many"], defArgs (top 7), defBody (top 7), defScope (top 7), b16, true⟩,
  ⟨"is_choices", ["thing"], ["thing", "many", "part"], defArgs (top 8), defBody (top 8), defScope (top 8), b17, true⟩,
  ⟨"count_groups", ["choices"], ["choices", "word", "number"], defArgs (top 9), defBody (top 9), defScope (top 9), b18, true⟩,
  ⟨"is_gaps", ["choices", "thing"], ["choices", "thing", "gap"], defArgs (top 10), defBody (top 10), defScope (top 10), b19, true⟩,
  ⟨"starts", ["there"], ["there", "plot"], defArgs (top 11), defBody (top 11), defScope (top 11), b20, true⟩,
  ⟨"choice_of", ["plot", "there"], ["plot", "there", "left", "count", "start"], defArgs (top 12), defBody (top 12), defScope (top 12), b21, true⟩,
  ⟨"choices_of", ["row"], ["row", "time", "plot"], defArgs (top 13), defBody (top 13), defScope (top 13), b22, true⟩,
  ⟨"gaps_of", ["plots", "row"], ["plots", "row", "plot", "found", "gap"], defArgs (top 14), defBody (top 14), defScope (top 14), b23, true⟩,
  ⟨"grown", ["some", "time", "choice"], ["some", "time", "choice", "place", "own", "word", "number"], defArgs (top 15), defBody (top 15), defScope (top 15), b24, true⟩,
  ⟨"row_of", ["choices", "gaps"], ["choices", "gaps", "some", "time", "choice", "found", "plot", "place", "own"], defArgs (top 16), defBody (top 16), defScope (top 16), b25, true⟩,
  ⟨"_law_lists", ["_law_part"], ["_law_part", "_law_piece"], defArgs (top 23), defBody (top 23), defScope (top 23), b26, true⟩,
  ⟨"_law_pick_of", ["_law_plot", "_law_there"], ["_law_plot", "_law_there", "_law_runs_so", "_law_left", "_law_near", "_law_some", "_law_at"], defArgs (top 26), defBody (top 26), defScope (top 26), b27, true⟩,
  ⟨"_law_picks", ["_law_queue_here"], ["_law_queue_here", "_law_spot", "_law_plot"], defArgs (top 27), defBody (top 27), defScope (top 27), b28, true⟩,
  ⟨"_law_holes", ["_law_count", "_law_queue_here"], ["_law_count", "_law_queue_here", "_law_some", "_law_runs_so", "_law_found", "_law_begin"], defArgs (top 28), defBody (top 28), defScope (top 28), b29, true⟩,
  ⟨"_law_right", ["_law_box_here"], ["_law_box_here", "_law_count", "_law_queue_here", "_law_holes_here", "_law_told", "_law_soft", "_law_listed", "_law_picks_here"], defArgs (top 29), defBody (top 29), defScope (top 29), b30, true⟩],
  ["WORDS", "STEPS"], [(22, ["row"], [0]), (23, ["row", "plots"], [1, 0]), (25, ["gaps", "choices"], [1, 0])], consts⟩
def defs : List Og.Def := [⟨1, 1, b0⟩, ⟨0, 0, .bad⟩, ⟨2, 3, b2⟩, ⟨0, 0, .bad⟩, ⟨0, 0, .bad⟩, ⟨0, 0, .bad⟩, ⟨2, 2, b6⟩, ⟨2, 4, b7⟩, ⟨0, 0, .bad⟩, ⟨1, 4, b9⟩, ⟨0, 0, .bad⟩, ⟨3, 9, b11⟩, ⟨0, 0, .bad⟩, ⟨0, 0, .bad⟩, ⟨0, 0, .bad⟩, ⟨2, 2, b15⟩, ⟨2, 2, b16⟩, ⟨1, 3, b17⟩, ⟨1, 3, b18⟩, ⟨2, 3, b19⟩, ⟨1, 2, b20⟩, ⟨2, 5, b21⟩, ⟨1, 3, b22⟩, ⟨2, 5, b23⟩, ⟨3, 7, b24⟩, ⟨2, 9, b25⟩, ⟨1, 2, b26⟩, ⟨2, 7, b27⟩, ⟨1, 3, b28⟩, ⟨2, 6, b29⟩, ⟨1, 8, b30⟩]
abbrev f_is_number : Nat := 0
abbrev f_neighbours : Nat := 2
abbrev f_law_of : Nat := 6
abbrev f_law_same : Nat := 7
abbrev f_law_runs : Nat := 9
abbrev f_law_queue : Nat := 11
abbrev f_ways : Nat := 15
abbrev f_is_choice : Nat := 16
abbrev f_is_choices : Nat := 17
abbrev f_count_groups : Nat := 18
abbrev f_is_gaps : Nat := 19
abbrev f_starts : Nat := 20
abbrev f_choice_of : Nat := 21
abbrev f_choices_of : Nat := 22
abbrev f_gaps_of : Nat := 23
abbrev f_grown : Nat := 24
abbrev f_row_of : Nat := 25
abbrev f_law_lists : Nat := 26
abbrev f_law_pick_of : Nat := 27
abbrev f_law_picks : Nat := 28
abbrev f_law_holes : Nat := 29
abbrev f_law_right : Nat := 30
section
instance : Fn defs 0 Lw.d0 := ⟨rfl⟩
instance : Fn defs 2 Lw.d2 := ⟨rfl⟩
instance : Fn defs 6 Lw.d6 := ⟨rfl⟩
instance : Fn defs 7 Lw.d7 := ⟨rfl⟩
instance : Fn defs 9 Lw.d9 := ⟨rfl⟩
instance : Fn defs 11 Lw.d11 := ⟨rfl⟩
instance : Fn defs 15 Lw.d15 := ⟨rfl⟩
instance : Fn defs 16 Lw.d16 := ⟨rfl⟩
instance : Fn defs 17 Lw.d17 := ⟨rfl⟩
instance : Fn defs 18 Lw.d18 := ⟨rfl⟩
instance : Fn defs 19 Lw.d19 := ⟨rfl⟩
instance : Fn defs 20 Lw.d20 := ⟨rfl⟩
instance : Fn defs 21 Lw.d21 := ⟨rfl⟩
instance : Fn defs 22 Lw.d22 := ⟨rfl⟩
instance : Fn defs 23 Lw.d23 := ⟨rfl⟩
instance : Fn defs 24 Lw.d24 := ⟨rfl⟩
instance : Fn defs 25 Lw.d25 := ⟨rfl⟩
instance : Fn defs 26 Lw.d26 := ⟨rfl⟩
instance : Fn defs 27 Lw.d27 := ⟨rfl⟩
instance : Fn defs 28 Lw.d28 := ⟨rfl⟩
instance : Fn defs 29 Lw.d29 := ⟨rfl⟩
instance : Fn defs 30 Lw.d30 := ⟨rfl⟩
instance : Gc consts 0 Lw.wordsD := ⟨rfl⟩
instance : Gc consts 1 Lw.stepsD := ⟨rfl⟩
theorem right_pl (o : Hist → Int → Int) (g : Good o) (h : Hist) (hl : h.length ≤ 600000) : ∃ h', callN o consts defs 1000 30 30 [.box] h = .ok (.bool true) .pl h' ∧ h'.length ≤ h.length + 100000 := Lw.c_right02 (n := 20) g hl

end
theorem ck_ok : tx.ck = true := by decide +kernel
def fn : List He.DefD := [⟨("is_number", none), "is_number", "is_number", defArgs (top 1), defBody (top 1), defScope (top 1), [], []⟩,
  ⟨("neighbours", none), "neighbours", "neighbours", defArgs (top 2), defBody (top 2), defScope (top 2), [], []⟩,
  ⟨("ways", none), "ways", "ways", defArgs (top 6), defBody (top 6), defScope (top 6), [], []⟩,
  ⟨("is_choice", none), "is_choice", "is_choice", defArgs (top 7), defBody (top 7), defScope (top 7), [], []⟩,
  ⟨("is_choices", none), "is_choices", "is_choices", defArgs (top 8), defBody (top 8), defScope (top 8), [], []⟩,
  ⟨("count_groups", none), "count_groups", "count_groups", defArgs (top 9), defBody (top 9), defScope (top 9), [], []⟩,
  ⟨("is_gaps", none), "is_gaps", "is_gaps", defArgs (top 10), defBody (top 10), defScope (top 10), [], []⟩,
  ⟨("starts", none), "starts", "starts", defArgs (top 11), defBody (top 11), defScope (top 11), [], []⟩,
  ⟨("choice_of", none), "choice_of", "choice_of", defArgs (top 12), defBody (top 12), defScope (top 12), [], []⟩,
  ⟨("choices_of", none), "choices_of", "choices_of", defArgs (top 13), defBody (top 13), defScope (top 13), [], []⟩,
  ⟨("gaps_of", none), "gaps_of", "gaps_of", defArgs (top 14), defBody (top 14), defScope (top 14), [], []⟩,
  ⟨("grown", none), "grown", "grown", defArgs (top 15), defBody (top 15), defScope (top 15), [], []⟩,
  ⟨("row_of", none), "row_of", "row_of", defArgs (top 16), defBody (top 16), defScope (top 16), [], []⟩,
  ⟨("_law_of", none), "_law_of", "_law_of", defArgs (top 21), defBody (top 21), defScope (top 21), [], []⟩,
  ⟨("_law_same", none), "_law_same", "_law_same", defArgs (top 22), defBody (top 22), defScope (top 22), [], []⟩,
  ⟨("_law_lists", none), "_law_lists", "_law_lists", defArgs (top 23), defBody (top 23), defScope (top 23), [], []⟩,
  ⟨("_law_runs", none), "_law_runs", "_law_runs", defArgs (top 24), defBody (top 24), defScope (top 24), [], []⟩,
  ⟨("_law_queue", none), "_law_queue", "_law_queue", defArgs (top 25), defBody (top 25), defScope (top 25), [], []⟩,
  ⟨("_law_pick_of", none), "_law_pick_of", "_law_pick_of", defArgs (top 26), defBody (top 26), defScope (top 26), [], []⟩,
  ⟨("_law_picks", none), "_law_picks", "_law_picks", defArgs (top 27), defBody (top 27), defScope (top 27), [], []⟩,
  ⟨("_law_holes", none), "_law_holes", "_law_holes", defArgs (top 28), defBody (top 28), defScope (top 28), [], []⟩,
  ⟨("_law_right", none), "_law_right", "_law_right", defArgs (top 29), defBody (top 29), defScope (top 29), [], []⟩,
  ⟨("_law_cell_at", none), "_law_cell_at", "_law_cell_at", defArgs (top 18), defBody (top 18), defScope (top 18), [], []⟩,
  ⟨("_law_box", none), "_law_box", "_law_box", defArgs (top 19), defBody (top 19), defScope (top 19), [], []⟩,
  ⟨("_law_take", none), "_law_take", "_law_take", defArgs (top 20), defBody (top 20), defScope (top 20), [], []⟩,
  ⟨("law", none), "law", "law", defArgs (top 30), defBody (top 30), defScope (top 30), [], []⟩]
def fa : List He.Fa := [.glo "is_number", .glo "neighbours", .glo "ways", .glo "is_choice", .glo "is_choices", .glo "count_groups", .glo "is_gaps", .glo "starts", .glo "choice_of", .glo "choices_of", .glo "gaps_of", .glo "grown", .glo "row_of", .glo "_law_of", .glo "_law_same", .glo "_law_lists", .glo "_law_runs", .glo "_law_queue", .glo "_law_pick_of", .glo "_law_picks", .glo "_law_holes", .glo "_law_right", .glo "_law_cell_at", .glo "_law_box", .glo "_law_take", .glo "law", .free "len", .free "tuple", .free "list", .free "sorted", .free "sum", .free "all", .free "any", .free "abs", .free "max", .free "min", .free "int", .free "isinstance", .free "range", .free "enumerate", .free "zip", .free "bool", .free "str", .free "dict", .free "set", .glo "WORDS", .glo "STEPS"]
def ts : List He.Tab := [(fun K => He.ga K "STEPS", ["beside", "between", "new"])]
def ex (K : PySem.W.Frag) : Bool := (He.tupB K "WORDS" [.str "beside", .str "between", .str "new"]) && (He.valsB K (He.ga K "STEPS") [("beside", .int 0), ("between", .int (-1)), ("new", .int 1)])
abbrev R : PySem.W.OpenRow := PySem.W.OpenLaw.row PySem.Challenge.rw_onlygroups_k02_choices_and_gaps_of_rows
abbrev hk : PySem.W.Hook := He.hookX 5 fa fn ts [] ex
def ob (s : PySem.W.SharedT) : He.AlX := He.obsX 5 fa fn ts [] ex (HandSHeadRun.getT s)
theorem ob_eq (s : PySem.W.SharedT) : ob s = hk.obs s.abs := He.obsX_eq (HandSHeadRun.getT_eq s)
def names : List PySem.Str := (["is_number", "neighbours", "WORDS", "STEPS", "ways", "is_choice", "is_choices", "count_groups", "is_gaps", "starts", "choice_of", "choices_of", "gaps_of", "grown", "row_of", "_law_cell_at", "_law_box", "_law_take", "_law_of", "_law_same", "_law_lists", "_law_runs", "_law_queue", "_law_pick_of", "_law_picks", "_law_holes", "_law_right"] : List PySem.Str)
theorem run (w : World) : HandSHeadRun.RunEq R (PySem.W.view R.prog [30]) hk ob 20000 names w := by
  refine PySem.W.byRow2 "special-get-raises" (P := fun w => HandSHeadRun.RunEq R (PySem.W.view R.prog [30]) hk ob 20000 names w) ?_ ?_ w
  · intro w os
    kernel_rfl
  · intro w os
    kernel_rfl
section
variable {w : World} {K : PySem.W.Frag} {h : Heap} {mg : Str → Option Value}
theorem kw_22 {K : PySem.W.Frag} {fa : Addr} {fd : FuncData} (F : FunD K "choices_of" "choices_of" (defArgs (top 13)) (defBody (top 13)) (defScope (top 13)) [] [] fa fd) : ∀ ks pm, (22, ks, pm) ∈ tx.kw → KBinds K fd ["row"] ks (permG pm) (permG pm) := by
  intro ks pm h
  have m := kwFind (l := [(["row"], [0])]) (by decide) ks pm h
  simp only [List.mem_cons, List.not_mem_nil, or_false, Prod.mk.injEq] at m
  rcases m with ⟨rfl, rfl⟩
  · exact kb_of F (by simp) fun _ _ _ _ _ _ ws hl => match ws, hl with | [], hl => by simp [permL] at hl | _ :: _, _ => rfl
theorem kw_23 {K : PySem.W.Frag} {fa : Addr} {fd : FuncData} (F : FunD K "gaps_of" "gaps_of" (defArgs (top 14)) (defBody (top 14)) (defScope (top 14)) [] [] fa fd) : ∀ ks pm, (23, ks, pm) ∈ tx.kw → KBinds K fd ["plots", "row"] ks (permG pm) (permG pm) := by
  intro ks pm h
  have m := kwFind (l := [(["row", "plots"], [1, 0])]) (by decide) ks pm h
  simp only [List.mem_cons, List.not_mem_nil, or_false, Prod.mk.injEq] at m
  rcases m with ⟨rfl, rfl⟩
  · exact kb_of F (by simp) fun _ _ _ _ _ _ ws hl => match ws, hl with | [], hl => by simp [permL] at hl | [_], hl => by simp [permL] at hl | _ :: _ :: _, _ => rfl
theorem kw_25 {K : PySem.W.Frag} {fa : Addr} {fd : FuncData} (F : FunD K "row_of" "row_of" (defArgs (top 16)) (defBody (top 16)) (defScope (top 16)) [] [] fa fd) : ∀ ks pm, (25, ks, pm) ∈ tx.kw → KBinds K fd ["choices", "gaps"] ks (permG pm) (permG pm) := by
  intro ks pm h
  have m := kwFind (l := [(["gaps", "choices"], [1, 0])]) (by decide) ks pm h
  simp only [List.mem_cons, List.not_mem_nil, or_false, Prod.mk.injEq] at m
  rcases m with ⟨rfl, rfl⟩
  · exact kb_of F (by simp) fun _ _ _ _ _ _ ws hl => match ws, hl with | [], hl => by simp [permL] at hl | [_], hl => by simp [permL] at hl | _ :: _ :: _, _ => rfl

theorem fns_ok (X : K.In h) (G : h.Ns mainGlobals mg) (c : He.SaysX fa fn ts [] ex w h K) : AllF (fun f t => t.here = true → ∃ fa fd, FunD K t.name t.name t.args t.bd t.sc [] [] fa fd ∧ mg t.name = some (.ref fa) ∧ Binds K fd t.ps [] ∧ ∀ ks pm, (f, ks, pm) ∈ tx.kw → KBinds K fd t.ps ks (permG pm) (permG pm)) 0 tx.T := by
  refine ⟨fun _ => ?_, ?_⟩
  · obtain ⟨fd, F⟩ := c.t.d.def_ 0 (d := ⟨("is_number", none), "is_number", "is_number", defArgs (top 1), defBody (top 1), defScope (top 1), [], []⟩) rfl
    exact ⟨_, fd, F, He.glo_ok X G (c.t.d.fact 0 (f := .glo "is_number") rfl), F.bindsN fun _ _ _ _ _ _ us hl => match us, hl with | [_], _ => rfl, noKw (by decide)⟩
  refine ⟨(fun h => nomatch h), ?_⟩
  refine ⟨fun _ => ?_, ?_⟩
  · obtain ⟨fd, F⟩ := c.t.d.def_ 1 (d := ⟨("neighbours", none), "neighbours", "neighbours", defArgs (top 2), defBody (top 2), defScope (top 2), [], []⟩) rfl
    exact ⟨_, fd, F, He.glo_ok X G (c.t.d.fact 1 (f := .glo "neighbours") rfl), F.bindsN fun _ _ _ _ _ _ us hl => match us, hl with | [_, _], _ => rfl, noKw (by decide)⟩
  refine ⟨(fun h => nomatch h), ?_⟩
  refine ⟨(fun h => nomatch h), ?_⟩
  refine ⟨(fun h => nomatch h), ?_⟩
  refine ⟨fun _ => ?_, ?_⟩
  · obtain ⟨fd, F⟩ := c.t.d.def_ 13 (d := ⟨("_law_of", none), "_law_of", "_law_of", defArgs (top 21), defBody (top 21), defScope (top 21), [], []⟩) rfl
    exact ⟨_, fd, F, He.glo_ok X G (c.t.d.fact 13 (f := .glo "_law_of") rfl), F.bindsN fun _ _ _ _ _ _ us hl => match us, hl with | [_, _], _ => rfl, noKw (by decide)⟩
  refine ⟨fun _ => ?_, ?_⟩
  · obtain ⟨fd, F⟩ := c.t.d.def_ 14 (d := ⟨("_law_same", none), "_law_same", "_law_same", defArgs (top 22), defBody (top 22), defScope (top 22), [], []⟩) rfl
    exact ⟨_, fd, F, He.glo_ok X G (c.t.d.fact 14 (f := .glo "_law_same") rfl), F.bindsN fun _ _ _ _ _ _ us hl => match us, hl with | [_, _], _ => rfl, noKw (by decide)⟩
  refine ⟨(fun h => nomatch h), ?_⟩
  refine ⟨fun _ => ?_, ?_⟩
  · obtain ⟨fd, F⟩ := c.t.d.def_ 16 (d := ⟨("_law_runs", none), "_law_runs", "_law_runs", defArgs (top 24), defBody (top 24), defScope (top 24), [], []⟩) rfl
    exact ⟨_, fd, F, He.glo_ok X G (c.t.d.fact 16 (f := .glo "_law_runs") rfl), F.bindsN fun _ _ _ _ _ _ us hl => match us, hl with | [_], _ => rfl, noKw (by decide)⟩
  refine ⟨(fun h => nomatch h), ?_⟩
  refine ⟨fun _ => ?_, ?_⟩
  · obtain ⟨fd, F⟩ := c.t.d.def_ 17 (d := ⟨("_law_queue", none), "_law_queue", "_law_queue", defArgs (top 25), defBody (top 25), defScope (top 25), [], []⟩) rfl
    exact ⟨_, fd, F, He.glo_ok X G (c.t.d.fact 17 (f := .glo "_law_queue") rfl), F.bindsN fun _ _ _ _ _ _ us hl => match us, hl with | [_, _, _], _ => rfl, noKw (by decide)⟩
  refine ⟨(fun h => nomatch h), ?_⟩
  refine ⟨(fun h => nomatch h), ?_⟩
  refine ⟨(fun h => nomatch h), ?_⟩
  refine ⟨fun _ => ?_, ?_⟩
  · obtain ⟨fd, F⟩ := c.t.d.def_ 2 (d := ⟨("ways", none), "ways", "ways", defArgs (top 6), defBody (top 6), defScope (top 6), [], []⟩) rfl
    exact ⟨_, fd, F, He.glo_ok X G (c.t.d.fact 2 (f := .glo "ways") rfl), F.bindsN fun _ _ _ _ _ _ us hl => match us, hl with | [_, _], _ => rfl, noKw (by decide)⟩
  refine ⟨fun _ => ?_, ?_⟩
  · obtain ⟨fd, F⟩ := c.t.d.def_ 3 (d := ⟨("is_choice", none), "is_choice", "is_choice", defArgs (top 7), defBody (top 7), defScope (top 7), [], []⟩) rfl
    exact ⟨_, fd, F, He.glo_ok X G (c.t.d.fact 3 (f := .glo "is_choice") rfl), F.bindsN fun _ _ _ _ _ _ us hl => match us, hl with | [_, _], _ => rfl, noKw (by decide)⟩
  refine ⟨fun _ => ?_, ?_⟩
  · obtain ⟨fd, F⟩ := c.t.d.def_ 4 (d := ⟨("is_choices", none), "is_choices", "is_choices", defArgs (top 8), defBody (top 8), defScope (top 8), [], []⟩) rfl
    exact ⟨_, fd, F, He.glo_ok X G (c.t.d.fact 4 (f := .glo "is_choices") rfl), F.bindsN fun _ _ _ _ _ _ us hl => match us, hl with | [_], _ => rfl, noKw (by decide)⟩
  refine ⟨fun _ => ?_, ?_⟩
  · obtain ⟨fd, F⟩ := c.t.d.def_ 5 (d := ⟨("count_groups", none), "count_groups", "count_groups", defArgs (top 9), defBody (top 9), defScope (top 9), [], []⟩) rfl
    exact ⟨_, fd, F, He.glo_ok X G (c.t.d.fact 5 (f := .glo "count_groups") rfl), F.bindsN fun _ _ _ _ _ _ us hl => match us, hl with | [_], _ => rfl, noKw (by decide)⟩
  refine ⟨fun _ => ?_, ?_⟩
  · obtain ⟨fd, F⟩ := c.t.d.def_ 6 (d := ⟨("is_gaps", none), "is_gaps", "is_gaps", defArgs (top 10), defBody (top 10), defScope (top 10), [], []⟩) rfl
    exact ⟨_, fd, F, He.glo_ok X G (c.t.d.fact 6 (f := .glo "is_gaps") rfl), F.bindsN fun _ _ _ _ _ _ us hl => match us, hl with | [_, _], _ => rfl, noKw (by decide)⟩
  refine ⟨fun _ => ?_, ?_⟩
  · obtain ⟨fd, F⟩ := c.t.d.def_ 7 (d := ⟨("starts", none), "starts", "starts", defArgs (top 11), defBody (top 11), defScope (top 11), [], []⟩) rfl
    exact ⟨_, fd, F, He.glo_ok X G (c.t.d.fact 7 (f := .glo "starts") rfl), F.bindsN fun _ _ _ _ _ _ us hl => match us, hl with | [_], _ => rfl, noKw (by decide)⟩
  refine ⟨fun _ => ?_, ?_⟩
  · obtain ⟨fd, F⟩ := c.t.d.def_ 8 (d := ⟨("choice_of", none), "choice_of", "choice_of", defArgs (top 12), defBody (top 12), defScope (top 12), [], []⟩) rfl
    exact ⟨_, fd, F, He.glo_ok X G (c.t.d.fact 8 (f := .glo "choice_of") rfl), F.bindsN fun _ _ _ _ _ _ us hl => match us, hl with | [_, _], _ => rfl, noKw (by decide)⟩
  refine ⟨fun _ => ?_, ?_⟩
  · obtain ⟨fd, F⟩ := c.t.d.def_ 9 (d := ⟨("choices_of", none), "choices_of", "choices_of", defArgs (top 13), defBody (top 13), defScope (top 13), [], []⟩) rfl
    exact ⟨_, fd, F, He.glo_ok X G (c.t.d.fact 9 (f := .glo "choices_of") rfl), F.bindsN fun _ _ _ _ _ _ us hl => match us, hl with | [_], _ => rfl, kw_22 F⟩
  refine ⟨fun _ => ?_, ?_⟩
  · obtain ⟨fd, F⟩ := c.t.d.def_ 10 (d := ⟨("gaps_of", none), "gaps_of", "gaps_of", defArgs (top 14), defBody (top 14), defScope (top 14), [], []⟩) rfl
    exact ⟨_, fd, F, He.glo_ok X G (c.t.d.fact 10 (f := .glo "gaps_of") rfl), F.bindsN fun _ _ _ _ _ _ us hl => match us, hl with | [_, _], _ => rfl, kw_23 F⟩
  refine ⟨fun _ => ?_, ?_⟩
  · obtain ⟨fd, F⟩ := c.t.d.def_ 11 (d := ⟨("grown", none), "grown", "grown", defArgs (top 15), defBody (top 15), defScope (top 15), [], []⟩) rfl
    exact ⟨_, fd, F, He.glo_ok X G (c.t.d.fact 11 (f := .glo "grown") rfl), F.bindsN fun _ _ _ _ _ _ us hl => match us, hl with | [_, _, _], _ => rfl, noKw (by decide)⟩
  refine ⟨fun _ => ?_, ?_⟩
  · obtain ⟨fd, F⟩ := c.t.d.def_ 12 (d := ⟨("row_of", none), "row_of", "row_of", defArgs (top 16), defBody (top 16), defScope (top 16), [], []⟩) rfl
    exact ⟨_, fd, F, He.glo_ok X G (c.t.d.fact 12 (f := .glo "row_of") rfl), F.bindsN fun _ _ _ _ _ _ us hl => match us, hl with | [_, _], _ => rfl, kw_25 F⟩
  refine ⟨fun _ => ?_, ?_⟩
  · obtain ⟨fd, F⟩ := c.t.d.def_ 15 (d := ⟨("_law_lists", none), "_law_lists", "_law_lists", defArgs (top 23), defBody (top 23), defScope (top 23), [], []⟩) rfl
    exact ⟨_, fd, F, He.glo_ok X G (c.t.d.fact 15 (f := .glo "_law_lists") rfl), F.bindsN fun _ _ _ _ _ _ us hl => match us, hl with | [_], _ => rfl, noKw (by decide)⟩
  refine ⟨fun _ => ?_, ?_⟩
  · obtain ⟨fd, F⟩ := c.t.d.def_ 18 (d := ⟨("_law_pick_of", none), "_law_pick_of", "_law_pick_of", defArgs (top 26), defBody (top 26), defScope (top 26), [], []⟩) rfl
    exact ⟨_, fd, F, He.glo_ok X G (c.t.d.fact 18 (f := .glo "_law_pick_of") rfl), F.bindsN fun _ _ _ _ _ _ us hl => match us, hl with | [_, _], _ => rfl, noKw (by decide)⟩
  refine ⟨fun _ => ?_, ?_⟩
  · obtain ⟨fd, F⟩ := c.t.d.def_ 19 (d := ⟨("_law_picks", none), "_law_picks", "_law_picks", defArgs (top 27), defBody (top 27), defScope (top 27), [], []⟩) rfl
    exact ⟨_, fd, F, He.glo_ok X G (c.t.d.fact 19 (f := .glo "_law_picks") rfl), F.bindsN fun _ _ _ _ _ _ us hl => match us, hl with | [_], _ => rfl, noKw (by decide)⟩
  refine ⟨fun _ => ?_, ?_⟩
  · obtain ⟨fd, F⟩ := c.t.d.def_ 20 (d := ⟨("_law_holes", none), "_law_holes", "_law_holes", defArgs (top 28), defBody (top 28), defScope (top 28), [], []⟩) rfl
    exact ⟨_, fd, F, He.glo_ok X G (c.t.d.fact 20 (f := .glo "_law_holes") rfl), F.bindsN fun _ _ _ _ _ _ us hl => match us, hl with | [_, _], _ => rfl, noKw (by decide)⟩
  refine ⟨fun _ => ?_, ?_⟩
  · obtain ⟨fd, F⟩ := c.t.d.def_ 21 (d := ⟨("_law_right", none), "_law_right", "_law_right", defArgs (top 29), defBody (top 29), defScope (top 29), [], []⟩) rfl
    exact ⟨_, fd, F, He.glo_ok X G (c.t.d.fact 21 (f := .glo "_law_right") rfl), F.bindsN fun _ _ _ _ _ _ us hl => match us, hl with | [_], _ => rfl, noKw (by decide)⟩
  exact trivial
theorem glo_all (X : K.In h) (G : h.Ns mainGlobals mg) (c : He.SaysX fa fn ts [] ex w h K) : AllG (fun _ n d => neS n = true → ∃ u v, mg n = some u ∧ RelV v u ∧ ∀ c : Cf, c.K = K → c.w = w → GlR c v d) 0 tx.gl tx.G := by
  have hex := c.more
  unfold ex at hex
  exact ⟨(fun _ => ⟨_, .ref (He.ga K "WORDS"), He.glo_ok X G (c.t.d.fact 45 (f := .glo "WORDS") rfl), rfl, gl_tup ((Bool.and_eq_true_iff.mp hex).1) (by decide +kernel)⟩), (fun _ => ⟨_, .ref (He.ga K "STEPS"), He.glo_ok X G (c.t.d.fact 46 (f := .glo "STEPS") rfl), rfl, gl_dic (kvs := [("beside", .int 0), ("between", .int (-1)), ("new", .int 1)]) (tabE c.t 0 rfl) ((Bool.and_eq_true_iff.mp hex).2) (by rfl) (by decide +kernel)⟩), trivial⟩
theorem tx_ok (X : K.In h) (G : h.Ns mainGlobals mg) (c : He.SaysX fa fn ts [] ex w h K) : TxOk tx K w mg where
  blt := by
    intro n hn
    simp only [bltNames, List.mem_cons, List.not_mem_nil, or_false] at hn
    rcases hn with rfl | rfl | rfl | rfl | rfl | rfl | rfl | rfl | rfl | rfl | rfl | rfl | rfl | rfl | rfl | rfl | rfl | rfl | rfl
    · exact He.free_ok X G (c.t.d.fact 26 (f := .free "len") rfl)
    · exact He.free_ok X G (c.t.d.fact 27 (f := .free "tuple") rfl)
    · exact He.free_ok X G (c.t.d.fact 28 (f := .free "list") rfl)
    · exact He.free_ok X G (c.t.d.fact 29 (f := .free "sorted") rfl)
    · exact He.free_ok X G (c.t.d.fact 30 (f := .free "sum") rfl)
    · exact He.free_ok X G (c.t.d.fact 31 (f := .free "all") rfl)
    · exact He.free_ok X G (c.t.d.fact 32 (f := .free "any") rfl)
    · exact He.free_ok X G (c.t.d.fact 33 (f := .free "abs") rfl)
    · exact He.free_ok X G (c.t.d.fact 34 (f := .free "max") rfl)
    · exact He.free_ok X G (c.t.d.fact 35 (f := .free "min") rfl)
    · exact He.free_ok X G (c.t.d.fact 36 (f := .free "int") rfl)
    · exact He.free_ok X G (c.t.d.fact 37 (f := .free "isinstance") rfl)
    · exact He.free_ok X G (c.t.d.fact 38 (f := .free "range") rfl)
    · exact He.free_ok X G (c.t.d.fact 39 (f := .free "enumerate") rfl)
    · exact He.free_ok X G (c.t.d.fact 40 (f := .free "zip") rfl)
    · exact He.free_ok X G (c.t.d.fact 41 (f := .free "bool") rfl)
    · exact He.free_ok X G (c.t.d.fact 42 (f := .free "str") rfl)
    · exact He.free_ok X G (c.t.d.fact 43 (f := .free "dict") rfl)
    · exact He.free_ok X G (c.t.d.fact 44 (f := .free "set") rfl)
  glo := fun i n d h1 h2 h3 => (glo_all X G c).all i n d h1 h2 h3
  fns := fun f t ht hh => (fns_ok X G c).all f t ht hh
theorem right : RightOK tx 1000 30 30 := fun o g h hl => right_pl o g h hl
theorem facts {P : Program} {f : Addr} (X : K.In h) (G : h.Ns mainGlobals mg) (hfa : mg ("law" : Str) = some (.ref f)) (c : He.SaysX fa fn ts [] ex w h K) :
    ∃ fd : FuncData, (∀ (s : Shared) (v : Value), BindsTo s fd ⟨[v], []⟩ [("_law_script", v)]) ∧ ∀ base : Heap, K.In base → base.Ns mainGlobals mg → FnOk P w K mg base L2.CX0 34 f fd ["_law_script"] (spLaw K) := by
  have ok := tx_ok X G c
  obtain ⟨fdC, FC⟩ := c.t.d.def_ 22 (d := ⟨("_law_cell_at", none), "_law_cell_at", "_law_cell_at", defArgs (top 18), defBody (top 18), defScope (top 18), [], []⟩) rfl
  obtain ⟨fdB, FB⟩ := c.t.d.def_ 23 (d := ⟨("_law_box", none), "_law_box", "_law_box", defArgs (top 19), defBody (top 19), defScope (top 19), [], []⟩) rfl
  obtain ⟨fdT, FT⟩ := c.t.d.def_ 24 (d := ⟨("_law_take", none), "_law_take", "_law_take", defArgs (top 20), defBody (top 20), defScope (top 20), [], []⟩) rfl
  obtain ⟨fd, F⟩ := c.t.d.def_ 25 (d := ⟨("law", none), "law", "law", defArgs (top 30), defBody (top 30), defScope (top 30), [], []⟩) rfl
  obtain ⟨fdR, FR⟩ := c.t.d.def_ 21 (d := ⟨("_law_right", none), "_law_right", "_law_right", defArgs (top 29), defBody (top 29), defScope (top 29), [], []⟩) rfl
  have mC := He.glo_ok X G (c.t.d.fact 22 (f := .glo "_law_cell_at") rfl)
  have mB := He.glo_ok X G (c.t.d.fact 23 (f := .glo "_law_box") rfl)
  have mT := He.glo_ok X G (c.t.d.fact 24 (f := .glo "_law_take") rfl)
  have mR := He.glo_ok X G (c.t.d.fact 21 (f := .glo "_law_right") rfl)
  have e := hfa.symm.trans (He.glo_ok X G (c.t.d.fact 25 (f := .glo "law") rfl))
  cases e
  have bC : L2.Binds K fdC ["_law_script", "_law_k"] [] := FC.bindsN fun _ _ _ _ _ _ us hl => match us, hl with | [_, _], _ => rfl
  have bB : L2.Binds K fdB ["_law_script", "_law_k"] [] := FB.bindsN fun _ _ _ _ _ _ us hl => match us, hl with | [_, _], _ => rfl
  have bT : L2.Binds K fdT ["_law_box_here", "_law_below"] [] := FT.bindsN fun _ _ _ _ _ _ us hl => match us, hl with | [_, _], _ => rfl
  have bR : L2.Binds K fdR (tx.T.getD 30 default).ps [] := FR.bindsN fun _ _ _ _ _ _ us hl => match us, hl with | [_], _ => rfl
  have b := FunD.bindsA (ps := ["_law_script"]) F fun _ _ _ _ _ _ us hl => match us, hl with | [_], _ => rfl
  refine ⟨fd, fun s v => b s [v] rfl, fun base _ _ => ?_⟩
  have oC : FnOk P w K mg base L2.CX0 1 _ fdC ["_law_script", "_law_k"] (spCell K) := ok_cellA FC (C8.fnScope_by (by decide +kernel)) (by decide +kernel) (by rfl) (ok.blt _ (by simp [bltNames]))
  have oB : FnOk P w K mg base L2.CX0 2 _ fdB ["_law_script", "_law_k"] (spBox K) := ok_box FB (C8.fnScope_by (by decide +kernel)) (by decide +kernel) (by decide +kernel) (by decide +kernel) (by decide +kernel) (by rfl) (ok.blt _ (by simp [bltNames])) (ok.blt _ (by simp [bltNames])) oC mC FC.kp bC
  have oT : FnOk P w K mg base L2.CX0 3 _ fdT ["_law_box_here", "_law_below"] (spTk 2) := ok_take0 FT (C8.fnScope_by (by decide +kernel)) (by decide +kernel) (by decide +kernel) (by decide +kernel) (by decide +kernel) (by rfl) mT bT 2 (by decide)
  have oR : FnOk P w K mg base L2.CX0 (30 + 3) _ fdR (tx.T.getD 30 default).ps spR := right_ok ok ck_ok oT mT FT.kp bT 30 30 (tx.T.getD 30 default) (by rfl) (by rfl) (by rfl) FR mR right
  exact ok_lawA (T := 3) (bn := bnC 3) (k := 33) F (C8.fnScope_by (by decide +kernel)) (by rfl) (by decide) (by intro ns; show _ ≤ 1000; first | (unfold bnC; omega) | decide) (by decide) (by decide +kernel) (by decide +kernel) (by decide +kernel) (by decide +kernel) (by decide +kernel) (ok.blt _ (by simp [bltNames])) (ok.blt _ (by simp [bltNames]))
    oB mB FB.kp bB oR mR FR.kp bR (fun Y hK hm hsc hN hc => by
      subst hK
      exact pi_C (C := 3) (by decide) (by rw [hN]; rfl) hc (by rw [hsc]; exact visB_ok (by decide +kernel)) (by show Y.env.scope.names.lookup _ = _; rw [hsc]; exact glB_ok (by decide +kernel)) (by show Y.env.scope.names.lookup _ = _; rw [hsc]; exact glB_ok (by decide +kernel)) (by show Y.env.scope.names.lookup _ = _; rw [hsc]; exact glB_ok (by decide +kernel)) (by rw [hm]; exact ok.blt _ (by simp [bltNames])) (by rw [hm]; exact ok.blt _ (by simp [bltNames])) (by rw [hm]; exact ok.blt _ (by simp [bltNames]))) (by rfl) (by decide +kernel) (by decide +kernel) (by decide +kernel) (by decide +kernel) (by decide +kernel)
end
end Lz
open PySem PySem.W PySem.Calls PyProof.Rows
theorem PySem.Challenge.cw_onlygroups_k02_choices_and_gaps_of_rows_holds : PySem.Challenge.rw_onlygroups_k02_choices_and_gaps_of_rows.Holds := by
  w_on; o_law
  refine HandSHeadRun.head_any (r := OpenLaw.row PySem.Challenge.rw_onlygroups_k02_choices_and_gaps_of_rows) (q := view (OpenLaw.row PySem.Challenge.rw_onlygroups_k02_choices_and_gaps_of_rows).prog [30]) (H := Lz.hk) (ob := Lz.ob) (M := 20000) (loose := Lz.names) (d := HandSHeadRun.topDef (OpenLaw.row PySem.Challenge.rw_onlygroups_k02_choices_and_gaps_of_rows).prog 30) (kwd := []) Lz.ob_eq
    (by kernel_rfl) (fun s => by kernel_rfl) Lz.run (by kernel_rfl) (by kernel_rfl) (by kernel_rfl) (by rfl) (by first | assumption | decide +kernel) (by decide +kernel) ⟨rfl, rfl, rfl, rfl, rfl, by decide +kernel⟩ ?hw ?hc
  case hw => w_witness2
  case hc =>
    refine L2.walk_ofE (l := PySem.Challenge.rw_onlygroups_k02_choices_and_gaps_of_rows) (n := 63) (k := 34) (x := "_law_script") (CX := L2.CX0) rfl (by decide) (by kernel_rfl) ⟨rfl, by decide, by decide⟩ ?F (fun _ _ _ _ z => z)
    intro w mg fa h Y G hmg0
    obtain ⟨K, KX, c⟩ := Y
    have hmg : mg ("law" : PySem.Str) = some (.ref fa) := by
      have e : (HandSHeadRun.topDef (OpenLaw.row PySem.Challenge.rw_onlygroups_k02_choices_and_gaps_of_rows).prog 30).name = ("law" : PySem.Str) := by kernel_rfl
      rw [← e]
      exact hmg0
    obtain ⟨fd, hb, hF⟩ := Lz.facts (P := (PySem.Challenge.rw_onlygroups_k02_choices_and_gaps_of_rows).prog) (w := w) KX G hmg c
    exact ⟨K, fd, Og.spLaw K, KX, hb, fun H a ns hl _ hS => ⟨a, ns, rfl, hS, fun _ => rfl⟩, hF⟩
