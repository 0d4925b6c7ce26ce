import PyProof.Rows.All
import Wide.All
import OpenK.AllK
import Wide.FinOn
import PySem.Challenge.RW_oncemarks_k05_trees_recognized
import KE.KExcPX
import KE.KExcSuper
import HandS.ForMost
import HandS.Exc
import HandS.ExcInit
import HandS.CallRecv
import HandS.HeadWalk
import HandS.ExcValue
import HandS.Lambda
import HandS.TupAny
import HandS.TupMul
import HandS.IsInst
import HandS.Wide
import HandS.Codes
import HandS.Flow
import HandS.Zip
import HandS.ExcField
import HandS.Property
import KE.GoesSet
import KE.GoesMore
import PyProof.SetRoads
import HandS.SetKeys
import HandS.Star
import HandS.HotCalls
import KE.KTryMore
import HandS.Defaults
import KE.KStateDown
import HandS.Head0
import HandS.Head1
import HandS.Head2
import HandS.HeadEnd
import HandS.HeadHook1
import HandS.HeadHook2
import HandS.HeadHook3
import HandS.HeadHook4
import HandS.EndTab
import KE.KNest
set_option Elab.async false
set_option linter.all false
set_option maxRecDepth 100000
/-! OmBase: abstract data, the small language that the program's defs are read as, and its evaluator. -/
namespace OM

/-- abstract data: a tuple, a list, a dict, an instance stand for themselves where nothing changes them any more; ref n is the n-th cell of the store -/
inductive D where
  | non
  | bl (b : Bool)
  | int (i : Int)
  | str (x : List Nat)
  | tup (xs : List D)
  | lst (xs : List D)
  | dct (ks vs : List D)
  | obj (c : Nat) (ns : List Nat) (vs : List D)
  | exc (c : Nat) (ns : List Nat) (vs : List D)
  | ref (n : Nat)
  | fn (k : Nat)
  | cls (k : Nat)
  | ty (k : Nat)
  | frz (xs : List Int)
  deriving Inhabited

/-- what a cell of the store holds -/
inductive Cell where
  | lst (xs : List D)
  | dct (ks vs : List D)
  | obj (c : Nat) (ns : List Nat) (vs : List D)
  deriving Inhabited

abbrev Sto := List Cell
abbrev Fr := List (Option D)

inductive Out (α : Type) where
  | ok (a : α) (S : Sto)
  | exc (x : D) (S : Sto)
  | bad

def Out.bind {α β : Type} (o : Out α) (f : α → Sto → Out β) : Out β :=
  match o with
  | .ok a S => f a S
  | .exc x S => .exc x S
  | .bad => .bad

mutual
/-- all cells that it names lie below m -/
def D.lo (m : Nat) : D → Bool
  | .tup xs => loL m xs
  | .lst xs => loL m xs
  | .dct ks vs => loL m ks && loL m vs
  | .obj _ _ vs => loL m vs
  | .exc _ _ vs => loL m vs
  | .ref n => decide (n < m)
  | _ => true
def loL (m : Nat) : List D → Bool
  | [] => true
  | d :: ds => D.lo m d && loL m ds
end

mutual
/-- plain data: None, bools, ints, texts, and tuples and lists of them -/
def D.plain : D → Bool
  | .non => true
  | .bl _ => true
  | .int _ => true
  | .str _ => true
  | .tup xs => plainL xs
  | .lst xs => plainL xs
  | _ => false
def plainL : List D → Bool
  | [] => true
  | d :: ds => D.plain d && plainL ds
end

mutual
/-- how deep plain data is nested -/
def D.dep : D → Nat
  | .tup xs => depL xs + 1
  | .lst xs => depL xs + 1
  | _ => 0
def depL : List D → Nat
  | [] => 0
  | d :: ds => max (D.dep d) (depL ds)
end

def b2i (b : Bool) : Int := if b then 1 else 0

mutual
/-- == of plain data -/
def D.eqv : D → D → Bool
  | .non, .non => true
  | .bl a, .bl b => a == b
  | .bl a, .int j => b2i a == j
  | .int i, .bl b => i == b2i b
  | .int i, .int j => i == j
  | .str x, .str y => x == y
  | .tup xs, .tup ys => eqvL xs ys
  | .lst xs, .lst ys => eqvL xs ys
  | _, _ => false
def eqvL : List D → List D → Bool
  | [], [] => true
  | d :: ds, e :: es => D.eqv d e && eqvL ds es
  | _, _ => false
end

inductive BinO where
  | add | sub | mul | fdiv | mod | pow
  deriving DecidableEq
inductive CmpO where
  | eq | ne | lt | le | gt | ge | is | isn | inn | nin
  deriving DecidableEq
/-- built-in functions, called with values -/
inductive Bi where
  | len | all | any | int | str | bool | list | tuple | sorted | sum | max | min | repr
  deriving DecidableEq
/-- methods of built-in types -/
inductive Bm where
  | join | append
  deriving DecidableEq
/-- targets of a loop -/
inductive Tgt where
  | one (i : Nat)
  | tup (is : List Nat)

mutual
inductive CE where
  | slot (i : Nat)
  | cst (d : D)
  | glo (g : Nat)
  | bin (o : BinO) (a b : CE)
  | neg (a : CE)
  | cmp (o : CmpO) (a b : CE)
  | chain (o o' : CmpO) (a b c : CE)
  | bop (isAnd : Bool) (es : List CE)
  | not (a : CE)
  | ite (c a b : CE)
  | call (keep : Bool) (f : Nat) (as : List CE) (kn : List Nat) (ka : List CE)
  | bcall (mu : Bool) (b : Bi) (as : List CE)
  | isin (a : CE) (ts : List CE)
  | bmeth (b : Bm) (o : CE) (as : List CE)
  | meth (keep : Bool) (o : CE) (m : Nat) (as : List CE) (kn : List Nat) (ka : List CE)
  | make (keep : Bool) (c : Nat) (as : List CE) (kn : List Nat) (ka : List CE)
  | smeth (keep : Bool) (c m : Nat) (as : List CE) (kn : List Nat) (ka : List CE)
  | attr (o : CE) (f : Nat)
  | xat (o : CE) (f : Nat)
  | why (e : CE)
  | own (neg : Bool) (a o : CE) (m : Nat)
  | dist (a : CE)
  | dsp (tup mu : Bool) (es : List CE) (st : List Bool)
  | idx (a b : CE)
  | sli (a : CE) (lo hi : List CE)
  | tup (es : List CE)
  | lst (mu : Bool) (es : List CE)
  | comp (mu : Bool) (elt : CE) (gs : List Gen)
inductive Gen where
  | mk (t : Tgt) (it : IT) (ifs : List CE)
inductive IT where
  | ov (e : CE)
  | rng1 (b : CE)
  | rng (a b : CE)
  | zip (a b : CE)
  | enm (a : CE)
end
inductive CS where
  | exp (e : CE)
  | ret (e : CE)
  | retN
  | set (i : Nat) (e : CE)
  | unp (is : List Nat) (e : CE)
  | par (is : List Nat) (es : List CE)
  | sub (o i e : CE)
  | fld (o : CE) (f : Nat) (e : CE)
  | aug (i : Nat) (o : BinO) (e : CE)
  | cond (c : CE) (a b : List CS)
  | loop (t : Tgt) (it : IT) (b : List CS)
  | whl (c : CE) (b : List CS)
  | pas | brk | cnt
  | raise (c : Nat) (as : List CE)
  | nev

/-- a def: its parameters (by their ids), its slots, its defaults (of the last parameters), its body -/
structure FD where
  ps : List Nat
  ns : Nat
  dv : List D
  body : List CS

/-! ### values -/
def truth (S : Sto) : D → Option Bool
  | .non => some false
  | .bl b => some b
  | .int i => some (i != 0)
  | .str x => some (!x.isEmpty)
  | .tup xs => some (!xs.isEmpty)
  | .lst xs => some (!xs.isEmpty)
  | .ref n => match S[n]? with
    | some (.lst xs) => some (!xs.isEmpty)
    | _ => none
  | _ => none

/-- the largest length that is asked for nowhere else: 2 ^ 24 -/
def line : Nat := 16777216

/-- a text as the model lets it stand -/
def okS (x : List Nat) : Bool := decide (x.length ≤ line) && x.all fun c => decide (c < 1114112)

/-- the items of a list or tuple -/
def seqOf (S : Sto) : D → Option (List D)
  | .tup xs => some xs
  | .lst xs => some xs
  | .ref n => match S[n]? with
    | some (.lst xs) => some xs
    | _ => none
  | _ => none
def lstOf (S : Sto) : D → Option (List D)
  | .lst xs => some xs
  | .ref n => match S[n]? with
    | some (.lst xs) => some xs
    | _ => none
  | _ => none

/-- plain data: itself, or what a cell holds -/
def datOf (S : Sto) (d : D) : Option D :=
  if d.plain then (if D.dep d ≤ 64 then some d else none) else match d with
    | .ref n => match S[n]? with
      | some (.lst xs) => if plainL xs && decide (depL xs ≤ 63) then some (.lst xs) else none
      | _ => none
    | _ => none

def okIf (c : Bool) (d : D) (S : Sto) : Out D := if c then .ok d S else .bad

def vAdd (x y : D) (S : Sto) : Out D :=
  match x with
  | .int i => match y with
    | .int j => .ok (.int (i + j)) S
    | _ => .bad
  | .str a => match y with
    | .str b => okIf (decide (a.length + b.length ≤ line)) (.str (a ++ b)) S
    | _ => .bad
  | .tup xs => match y with
    | .tup ys => okIf (decide (xs.length + ys.length ≤ line)) (.tup (xs ++ ys)) S
    | _ => .bad
  | x => match lstOf S x, lstOf S y with
    | some xs, some ys => okIf (decide (xs.length + ys.length ≤ line)) (.lst (xs ++ ys)) S
    | _, _ => .bad
def mulFits (i j : Int) : Bool := (decide (-18446744073709551616 < i) && decide (i < 18446744073709551616)) || (decide (-18446744073709551616 < j) && decide (j < 18446744073709551616))
def vMul (x y : D) (S : Sto) : Out D :=
  match y with
  | .int j => match x with
    | .int i => okIf (mulFits i j) (.int (i * j)) S
    | .tup xs => if j = 1 then .ok (.tup xs) S else okIf (!xs.isEmpty && decide (2 ≤ j) && decide (j ≤ 1000) && decide (xs.length ≤ 1000)) (.tup (List.replicate j.toNat xs).flatten) S
    | x => match lstOf S x with
      | some xs => okIf (decide (0 ≤ j) && decide (j ≤ 16777216) && decide (xs.length * j.toNat ≤ line)) (.lst (List.replicate j.toNat xs).flatten) S
      | none => .bad
  | _ => .bad
def vBin (o : BinO) (x y : D) (S : Sto) : Out D :=
  match o with
  | .add => vAdd x y S
  | .mul => vMul x y S
  | .sub => match x, y with
    | .int i, .int j => .ok (.int (i - j)) S
    | _, _ => .bad
  | .fdiv => match x, y with
    | .int i, .int j => okIf (decide (0 < j) && decide (j < 10000000000000000000000000000000000000000)) (.int (i / j)) S
    | _, _ => .bad
  | .mod => match x, y with
    | .int i, .int j => okIf (decide (0 < j)) (.int (i % j)) S
    | _, _ => .bad
  | .pow => match x, y with
    | .int i, .int j => okIf (decide (0 ≤ j) && decide (j ≤ 1000000) && decide (i.natAbs < 18446744073709551616)) (.int (i ^ j.toNat)) S
    | _, _ => .bad

def isInfixB (a : List Nat) : List Nat → Bool
  | [] => a.isEmpty
  | c :: r => a.isPrefixOf (c :: r) || isInfixB a r

def lexLt : List Nat → List Nat → Bool
  | [], [] => false
  | [], _ :: _ => true
  | _ :: _, [] => false
  | a :: r, b :: t => if a < b then true else if b < a then false else lexLt r t

/-- flat values: what x in xs compares without a def -/
def D.flat : D → Bool
  | .non => true
  | .bl _ => true
  | .int _ => true
  | .str _ => true
  | _ => false
def memD (x : D) : List D → Bool
  | [] => false
  | d :: ds => D.eqv d x || memD x ds
def flatL : List D → Bool
  | [] => true
  | d :: ds => D.flat d && flatL ds

def vEq (x y : D) (S : Sto) : Option Bool :=
  match datOf S x, datOf S y with
  | some d, some e => some (D.eqv d e)
  | _, _ => none
def vIn (x y : D) (S : Sto) : Option Bool :=
  match y with
  | .str b => match x with
    | .str a => some (isInfixB a b)
    | _ => none
  | y => match seqOf S y with
    | some ys => if x.flat && flatL ys then some (memD x ys) else none
    | none => none
def isNon : D → Bool
  | .non => true
  | _ => false
def vCmp (o : CmpO) (x y : D) (S : Sto) : Out D :=
  match o with
  | .lt => match x, y with
    | .int i, .int j => .ok (.bl (decide (i < j))) S
    | .str a, .str b => .ok (.bl (lexLt a b)) S
    | _, _ => .bad
  | .gt => match x, y with
    | .int i, .int j => .ok (.bl (decide (j < i))) S
    | _, _ => .bad
  | .le => match x, y with
    | .int i, .int j => .ok (.bl (decide (i ≤ j))) S
    | _, _ => .bad
  | .ge => match x, y with
    | .int i, .int j => .ok (.bl (decide (j ≤ i))) S
    | _, _ => .bad
  | .is => if isNon y then .ok (.bl (isNon x)) S else .bad
  | .isn => if isNon y then .ok (.bl (!isNon x)) S else .bad
  | .eq => match vEq x y S with
    | some b => .ok (.bl b) S
    | none => .bad
  | .ne => match vEq x y S with
    | some b => .ok (.bl (!b)) S
    | none => .bad
  | .inn => match vIn x y S with
    | some b => .ok (.bl b) S
    | none => .bad
  | .nin => match vIn x y S with
    | some b => .ok (.bl (!b)) S
    | none => .bad

/-- where a number points in a sequence of n items -/
def place (i : Int) (n : Nat) : Option Nat :=
  if 0 ≤ i then (if i.toNat < n then some i.toNat else none)
  else if 0 ≤ i + n then some (i + n).toNat else none

def vIdx (x y : D) (S : Sto) : Out D :=
  match x, y with
  | .str a, .int i => match place i a.length with
    | some k => match a[k]? with
      | some c => .ok (.str [c]) S
      | none => .bad
    | none => .bad
  | x, .int i => match seqOf S x with
    | some xs => match place i xs.length with
      | some k => match xs[k]? with
        | some d => .ok d S
        | none => .bad
      | none => .bad
    | none => .bad
  | _, _ => .bad

/-- a bound of a slice, brought into 0 .. n -/
def clip (n : Nat) (dflt : Nat) : Option Int → Nat
  | none => dflt
  | some i => if 0 ≤ i then min i.toNat n else (i + n).toNat
def cut {α : Type} (xs : List α) (lo hi : Option Int) : List α :=
  let a := clip xs.length 0 lo
  let b := clip xs.length xs.length hi
  (xs.drop a).take (b - a)

def vSli (x : D) (lo hi : Option Int) (S : Sto) : Out D :=
  match x with
  | .str a => .ok (.str (cut a lo hi)) S
  | .frz xs => .ok (.lst ((cut xs lo hi).map D.int)) S
  | .tup xs => .ok (.tup (cut xs lo hi)) S
  | x => match lstOf S x with
    | some xs => .ok (.lst (cut xs lo hi)) S
    | none => .bad

def lenOf (S : Sto) : D → Option Nat
  | .str x => some x.length
  | d => (seqOf S d).map (·.length)

def bools : List D → Option (List Bool)
  | [] => some []
  | .bl b :: r => (bools r).map (b :: ·)
  | _ => none
def texts : List D → Option (List (List Nat))
  | [] => some []
  | .str x :: r => (texts r).map (x :: ·)
  | _ => none
def intL : List D → Option (List Int)
  | [] => some []
  | .int x :: r => (intL r).map (x :: ·)
  | _ => none

/-- how many different ones, from the front -/
def distT (seen : List (List Nat)) : List (List Nat) → Nat
  | [] => 0
  | x :: xs => (if seen.contains x then 0 else 1) + distT (seen ++ [x]) xs
def maxL (m : Int) : List Int → Int
  | [] => m
  | x :: xs => maxL (if m < x then x else m) xs
/-- texts in order -/
def insT (x : List Nat) : List (List Nat) → List (List Nat)
  | [] => [x]
  | y :: ys => if lexLt y x then y :: insT x ys else x :: y :: ys
def sortT : List (List Nat) → List (List Nat)
  | [] => []
  | x :: xs => insT x (sortT xs)
/-- a list is made: a value that stands, or a new cell -/
def mkList (mu : Bool) (xs : List D) (S : Sto) : Out D :=
  if xs.length ≤ line then (if mu then .ok (.ref S.length) (S ++ [.lst xs]) else .ok (.lst xs) S) else .bad

def vBi1 (mu : Bool) (b : Bi) (x : D) (S : Sto) : Out D :=
  match b with
  | .len => match lenOf S x with
    | some n => .ok (.int n) S
    | none => .bad
  | .all => match (lstOf S x).bind bools with
    | some bs => .ok (.bl (bs.all id)) S
    | none => .bad
  | .any => match (lstOf S x).bind bools with
    | some bs => .ok (.bl (bs.any id)) S
    | none => .bad
  | .int => match x with
    | .int i => .ok (.int i) S
    | .bl b => .ok (.int (b2i b)) S
    | _ => .bad
  | .list => match seqOf S x with
    | some ys => mkList mu ys S
    | none => .bad
  | .tuple => match seqOf S x with
    | some ys => .ok (.tup ys) S
    | none => .bad
  | .max => match (lstOf S x).bind intL with
    | some (n :: ns) => .ok (.int (maxL n ns)) S
    | _ => .bad
  | .sorted => match (lstOf S x).bind texts with
    | some ts => if ts.length < 64 then mkList mu ((sortT ts).map D.str) S else .bad
    | none => .bad
  | _ => .bad
def vBi (mu : Bool) (b : Bi) (xs : List D) (S : Sto) : Out D :=
  match xs with
  | [x] => vBi1 mu b x S
  | _ => .bad

/-- the kind of a value, as a built-in class: 0 NoneType 1 bool 2 int 3 str 4 tuple 5 list 6 dict -/
def kindOf (S : Sto) : D → Option Nat
  | .non => some 0
  | .bl _ => some 1
  | .int _ => some 2
  | .str _ => some 3
  | .tup _ => some 4
  | .lst _ => some 5
  | .dct _ _ => some 6
  | .ref n => match S[n]? with
    | some (.lst _) => some 5
    | some (.dct _ _) => some 6
    | _ => none
  | _ => none
def kindIn (k t : Nat) : Bool := k == t || (k == 1 && t == 2)

def isInst (S : Sto) (x : D) : List D → Option Bool
  | [] => some false
  | .ty t :: r => match kindOf S x, isInst S x r with
    | some k, some b => if t < 7 then some (kindIn k t || b) else none
    | _, _ => none
  | _ => none

def joinT (s : List Nat) : List (List Nat) → List Nat
  | [] => []
  | [x] => x
  | x :: y :: r => x ++ s ++ joinT s (y :: r)
def sumLen : List (List Nat) → Nat
  | [] => 0
  | x :: r => x.length + sumLen r

def vJoin (o : D) (xs : List D) (S : Sto) : Out D :=
  match o, xs with
  | .str s, [x] => match (seqOf S x).bind texts with
    | some ts => okIf (decide (sumLen ts + ts.length * s.length ≤ line)) (.str (joinT s ts)) S
    | none => .bad
  | _, _ => .bad

/-- may v be stored in the cell b, where the regions begin at rs? -/
def fitsIn (rs : List Nat) (b : Nat) (v : D) : Bool := rs.all fun r => decide (r ≤ b) || v.lo r

def vAppend (rs : List Nat) (o : D) (xs : List D) (S : Sto) : Out D :=
  match o, xs with
  | .ref n, [x] => match S[n]? with
    | some (.lst ys) => if decide (ys.length < line) && fitsIn rs n x then .ok .non (S.set n (.lst (ys ++ [x]))) else .bad
    | _ => .bad
  | _, _ => .bad
def vBm (rs : List Nat) (b : Bm) (o : D) (xs : List D) (S : Sto) : Out D :=
  match b with
  | .join => vJoin o xs S
  | .append => vAppend rs o xs S

/-- the receiver is of the method's type -/
def bmOk (S : Sto) (b : Bm) (o : D) : Bool :=
  match b with
  | .join => match o with
    | .str _ => true
    | _ => false
  | .append => match o with
    | .ref n => match S[n]? with
      | some (.lst _) => true
      | _ => false
    | _ => false

/-! ### regions: what a call leaves -/
def frz1 (S : Sto) (m : Nat) : D → Option D
  | .ref n => if n < m then some (.ref n) else match S[n]? with
    | some (.lst xs) => if loL m xs then some (.lst xs) else none
    | some (.dct ks vs) => if loL m ks && loL m vs then some (.dct ks vs) else none
    | some (.obj c ns vs) => if loL m vs then some (.obj c ns vs) else none
    | none => none
  | d => if d.lo m then some d else none
def endCall (S0 : Sto) (o : Out D) : Out D :=
  match o with
  | .ok d S => match frz1 S S0.length d with
    | some d' => .ok d' (S.take S0.length)
    | none => .bad
  | .exc x S => if x.lo S0.length then .exc x (S.take S0.length) else .bad
  | .bad => .bad

/-! ### the evaluator -/
/-- classes: methods, properties, constants by class and name; __init__; which names are an instance's own -/
structure Clt where
  mth : Nat → Nat → Option Nat
  prp : Nat → Nat → Option Nat
  con : Nat → Nat → Option D
  ini : Nat → Option Nat
  fok : Nat → Nat → Bool
  smt : Nat → Nat → Option Nat
  /-- an exception class: its tag's name, the tag, its field's name -/
  exn : Nat → Option (Nat × List Nat × Option Nat)
  /-- fields of exceptions that may be read -/
  xok : Nat → Nat → Bool
structure Cxt where
  /-- defs: the def's id, its arguments in the parameters' order, the regions, the store -/
  call : Nat → List D → List Nat → Sto → Out D
  /-- globals -/
  glob : Nat → Option D
  /-- a def's parameters and defaults -/
  pars : Nat → Option (List Nat × List D)
  cl : Clt
  /-- what is told of a caught exception -/
  why : D → List Nat → Sto → Out D
  /-- the callees' level -/
  lvl : Nat
/-- "value" -/
def valueT : List Nat := [118, 97, 108, 117, 101]

/-- what lets no exception out -/
def nox {α : Type} : Out α → Out α
  | .exc _ _ => .bad
  | o => o
/-- a call; its new cells go at its end, or stay -/
def doCall (X : Cxt) (rs : List Nat) (kp : Bool) (g : Nat) (vs : List D) (S : Sto) : Out D :=
  if kp then X.call g vs rs S else endCall S (X.call g vs (S.length :: rs) S)
/-- a new instance, then its __init__ -/
def doMake (X : Cxt) (rs : List Nat) (kp : Bool) (c g : Nat) (vs : List D) (S : Sto) : Out D :=
  match X.call g vs (if kp then rs else S.length :: rs) (S ++ [.obj c [] []]) with
  | .ok .non S3 => if kp then .ok (.ref S.length) S3 else endCall S (.ok (.ref S.length) S3)
  | .exc x S3 => if kp then .exc x S3 else endCall S (.exc x S3)
  | _ => .bad
/-- an instance's class, names, values -/
def objOf (S : Sto) : D → Option (Nat × List Nat × List D)
  | .obj c ns vs => some (c, ns, vs)
  | .ref n => match S[n]? with
    | some (.obj c ns vs) => some (c, ns, vs)
    | _ => none
  | _ => none
/-- a field is stored -/
def putO (f : Nat) (v : D) : List Nat → List D → List Nat × List D
  | n :: ns, d :: ds => if n == f then (n :: ns, v :: ds) else let r := putO f v ns ds; (n :: r.1, d :: r.2)
  | _, _ => ([f], [v])

def lookN {α : Type} (x : Nat) : List Nat → List α → Option α
  | n :: ns, d :: ds => if n == x then some d else lookN x ns ds
  | _, _ => none
/-- the arguments in the parameters' order: positional ones, keywords, defaults (of the last parameters) -/
def bindA {α : Type} (dv : List α) : List Nat → List α → List Nat → List α → Option (List α)
  | [], [], _, _ => some []
  | [], _ :: _, _, _ => none
  | _ :: ps, a :: as, kn, ka => (bindA dv ps as kn ka).map (a :: ·)
  | p :: ps, [], kn, ka => match lookN p kn ka with
    | some d => (bindA dv ps [] kn ka).map (d :: ·)
    | none => if ps.length < dv.length then match dv[dv.length - (ps.length + 1)]? with
        | some d => (bindA dv ps [] kn ka).map (d :: ·)
        | none => none
      else none

/-- the slots of a comprehension's own names, forgotten -/
def wipeF (F : Fr) : List Nat → Fr
  | [] => F
  | v :: vs => (wipeF F vs).set v none
def Tgt.slots : Tgt → List Nat
  | .one i => [i]
  | .tup is => is
def setN (F : Fr) : List Nat → List D → Option Fr
  | [], [] => some F
  | i :: is, d :: ds => setN (F.set i (some d)) is ds
  | _, _ => none
def bindT (t : Tgt) (d : D) (F : Fr) : Option Fr :=
  match t with
  | .one i => some (F.set i (some d))
  | .tup is => match d with
    | .tup ds => setN F is ds
    | _ => none
def zipD : List D → List D → List D
  | x :: xs, y :: ys => .tup [x, y] :: zipD xs ys
  | _, _ => []
def enumD (k : Nat) : List D → List D
  | [] => []
  | x :: xs => .tup [.int k, x] :: enumD (k + 1) xs
def rangeD (a : Int) : Nat → List D
  | 0 => []
  | n + 1 => .int a :: rangeD (a + 1) n

/-- what is walked: items that stand, or a cell whose list has k items -/
inductive Src where
  | items (xs : List D)
  | cell (n k : Nat)
def Src.len : Src → Nat
  | .items xs => xs.length
  | .cell _ k => k
/-- the item at i, as it stands now: none at the end -/
def srcAt (S : Sto) (s : Src) (i : Nat) : Option (Option D) :=
  match s with
  | .items xs => some xs[i]?
  | .cell n k => match S[n]? with
    | some (.lst ys) => if ys.length = k then some ys[i]? else none
    | _ => none
def iterOf (S : Sto) : D → Option Src
  | .str x => some (.items (x.map fun c => .str [c]))
  | .tup xs => some (.items xs)
  | .lst xs => some (.items xs)
  | .ref n => match S[n]? with
    | some (.lst ys) => some (.cell n ys.length)
    | _ => none
  | _ => none

/-- the turns of a comprehension: m turns from the i-th on, ys made so far -/
def turns (f : D → Sto → Out (List D)) (s : Src) : Nat → Nat → List D → Sto → Out (List D)
  | 0, i, ys, S => match srcAt S s i with
    | some none => .ok ys S
    | _ => .bad
  | m + 1, i, ys, S => match srcAt S s i with
    | some (some d) => (nox (f d S)).bind fun zs S1 => turns f s m (i + 1) (ys ++ zs) S1
    | _ => .bad

def ownOf : List Gen → List Nat
  | [] => []
  | .mk t _ _ :: gs => t.slots ++ ownOf gs
/-- the next clause's own slots, forgotten -/
def wipeH (F : Fr) : List Gen → Fr
  | [] => F
  | .mk t _ _ :: _ => wipeF F t.slots

mutual
def ev (X : Cxt) (rs : List Nat) : CE → Fr → Sto → Out D
  | .slot i, F, S => match F[i]? with
    | some (some d) => .ok d S
    | _ => .bad
  | .cst d, _, S => .ok d S
  | .glo g, _, S => match X.glob g with
    | some d => .ok d S
    | none => .bad
  | .bin o a b, F, S => (ev X rs a F S).bind fun x S1 => (ev X rs b F S1).bind fun y S2 => vBin o x y S2
  | .neg a, F, S => (ev X rs a F S).bind fun x S1 => match x with
    | .int i => .ok (.int (-i)) S1
    | _ => .bad
  | .cmp o a b, F, S => (ev X rs a F S).bind fun x S1 => (ev X rs b F S1).bind fun y S2 => vCmp o x y S2
  | .chain o o' a b c, F, S => (ev X rs a F S).bind fun x S1 => (ev X rs b F S1).bind fun y S2 => (vCmp o x y S2).bind fun t S3 => match t with
    | .bl true => (ev X rs c F S3).bind fun z S4 => vCmp o' y z S4
    | .bl false => .ok (.bl false) S3
    | _ => .bad
  | .bop k es, F, S => evB X rs k es F S
  | .not a, F, S => (ev X rs a F S).bind fun x S1 => match truth S1 x with
    | some b => .ok (.bl (!b)) S1
    | none => .bad
  | .ite c a b, F, S => (ev X rs c F S).bind fun x S1 => match truth S1 x with
    | some true => ev X rs a F S1
    | some false => ev X rs b F S1
    | none => .bad
  | .call kp f as kn ka, F, S => (evL X rs as F S).bind fun xs S1 => (evL X rs ka F S1).bind fun zs S2 => match X.pars f with
    | some (ps, dv) => match bindA dv ps xs kn zs with
      | some vs => if kp then X.call f vs rs S2 else endCall S2 (X.call f vs (S2.length :: rs) S2)
      | none => .bad
    | none => .bad
  | .bcall mu b as, F, S => (evL X rs as F S).bind fun xs S1 => vBi mu b xs S1
  | .isin a ts, F, S => (ev X rs a F S).bind fun x S1 => (evL X rs ts F S1).bind fun zs S2 => match isInst S2 x zs with
    | some b => .ok (.bl b) S2
    | none => .bad
  | .bmeth b o as, F, S => (ev X rs o F S).bind fun x S1 => if bmOk S1 b x then (evL X rs as F S1).bind fun xs S2 => vBm rs b x xs S2 else .bad
  | .meth kp o m as kn ka, F, S => (ev X rs o F S).bind fun x S1 => match objOf S1 x with
    | some (c, ns, _) => match X.cl.mth c m with
      | some g => if ns.contains m then .bad else (evL X rs as F S1).bind fun xs S2 => (evL X rs ka F S2).bind fun zs S3 => match X.pars g with
        | some (ps, dv) => match bindA dv ps (x :: xs) kn zs with
          | some vs => doCall X rs kp g vs S3
          | none => .bad
        | none => .bad
      | none => .bad
    | none => .bad
  | .make kp c as kn ka, F, S => match X.cl.ini c with
    | some g => (evL X rs as F S).bind fun xs S1 => (evL X rs ka F S1).bind fun zs S2 => match X.pars g with
      | some (ps, dv) => match bindA dv ps (.ref S2.length :: xs) kn zs with
        | some vs => doMake X rs kp c g vs S2
        | none => .bad
      | none => .bad
    | none => .bad
  | .smeth kp c m as kn ka, F, S => match X.cl.smt c m with
    | some g => (evL X rs as F S).bind fun xs S1 => (evL X rs ka F S1).bind fun zs S2 => match X.pars g with
      | some (ps, dv) => match bindA dv ps xs kn zs with
        | some vs => doCall X rs kp g vs S2
        | none => .bad
      | none => .bad
    | none => .bad
  | .attr o f, F, S => (ev X rs o F S).bind fun x S1 => match objOf S1 x with
    | some (c, ns, vs) => match lookN f ns vs with
      | some d => if X.cl.fok c f then .ok d S1 else .bad
      | none => match X.cl.prp c f with
        | some g => match X.pars g with
          | some ([_], []) => nox (doCall X rs false g [x] S1)
          | _ => .bad
        | none => match X.cl.con c f with
          | some d => .ok d S1
          | none => .bad
    | none => .bad
  | .xat o f, F, S => (ev X rs o F S).bind fun x S1 => match x with
    | .exc c ns vs => if X.cl.xok c f then (match lookN f ns vs with
      | some d => .ok d S1
      | none => .bad) else .bad
    | _ => .bad
  | .why e, F, S => match ev X rs e F S with
    | .ok d S1 => .ok (.tup [.str valueT, d]) S1
    | .exc x S1 => nox (X.why x rs S1)
    | .bad => .bad
  | .own neg a o m, F, S => (ev X rs a F S).bind fun x S1 => (ev X rs o F S1).bind fun y S2 => match objOf S2 y with
    | some (c, _, _) => match X.cl.mth c m with
      | some g => match X.pars g with
        | some ([_, _], []) => (doCall X rs false g [y, x] S2).bind fun t S3 => match truth S3 t with
          | some b => .ok (.bl (if neg then !b else b)) S3
          | none => .bad
        | _ => .bad
      | none => .bad
    | none => .bad
  | .dist a, F, S => (ev X rs a F S).bind fun x S1 => match (seqOf S1 x).bind texts with
    | some ts => if ts.length < 4000 then .ok (.int (distT [] ts)) S1 else .bad
    | none => .bad
  | .dsp k mu es st, F, S => (evD X rs es st F S).bind fun xs S1 => if k then okIf (decide (xs.length ≤ line)) (.tup xs) S1 else mkList mu xs S1
  | .idx a b, F, S => (ev X rs a F S).bind fun x S1 => (ev X rs b F S1).bind fun y S2 => vIdx x y S2
  | .sli a lo hi, F, S => (ev X rs a F S).bind fun x S1 => (evO X rs lo F S1).bind fun l S2 => (evO X rs hi F S2).bind fun h S3 => vSli x l h S3
  | .tup es, F, S => (evL X rs es F S).bind fun xs S1 => okIf (decide (xs.length ≤ line)) (.tup xs) S1
  | .lst mu es, F, S => (evL X rs es F S).bind fun xs S1 => mkList mu xs S1
  | .comp mu e gs, F, S => (evG X rs (ev X rs e) gs F (wipeF F (ownOf gs)) S).bind fun xs S1 => mkList mu xs S1
def evB (X : Cxt) (rs : List Nat) (k : Bool) : List CE → Fr → Sto → Out D
  | [], _, _ => .bad
  | [a], F, S => ev X rs a F S
  | a :: b :: r, F, S => (ev X rs a F S).bind fun x S1 => match truth S1 x with
    | some t => if t == k then evB X rs k (b :: r) F S1 else .ok x S1
    | none => .bad
def evL (X : Cxt) (rs : List Nat) : List CE → Fr → Sto → Out (List D)
  | [], _, S => .ok [] S
  | e :: es, F, S => (ev X rs e F S).bind fun x S1 => (evL X rs es F S1).bind fun xs S2 => .ok (x :: xs) S2
def evD (X : Cxt) (rs : List Nat) : List CE → List Bool → Fr → Sto → Out (List D)
  | [], _, _, S => .ok [] S
  | e :: es, st, F, S => (ev X rs e F S).bind fun x S1 => match (if st.headD false then seqOf S1 x else some [x]) with
    | some xs => (evD X rs es st.tail F S1).bind fun ys S2 => .ok (xs ++ ys) S2
    | none => .bad
def evO (X : Cxt) (rs : List Nat) : List CE → Fr → Sto → Out (Option Int)
  | [], _, S => .ok none S
  | e :: _, F, S => (ev X rs e F S).bind fun x S1 => match x with
    | .int i => .ok (some i) S1
    | _ => .bad
/-- the tests of a clause -/
def evT (X : Cxt) (rs : List Nat) : List CE → Fr → Sto → Out Bool
  | [], _, S => .ok true S
  | e :: es, F, S => (ev X rs e F S).bind fun x S1 => match truth S1 x with
    | some true => evT X rs es F S1
    | some false => .ok false S1
    | none => .bad
def evI (X : Cxt) (rs : List Nat) : IT → Fr → Sto → Out Src
  | .ov e, F, S => (ev X rs e F S).bind fun x S1 => match iterOf S1 x with
    | some s => .ok s S1
    | none => .bad
  | .rng1 b, F, S => (ev X rs b F S).bind fun y S2 => match y with
    | .int j => if decide (-4611686018427387904 ≤ j) && decide (j < 4611686018427387904) then .ok (.items (rangeD 0 j.toNat)) S2 else .bad
    | _ => .bad
  | .rng a b, F, S => (ev X rs a F S).bind fun x S1 => (ev X rs b F S1).bind fun y S2 => match x, y with
    | .int i, .int j => if decide (-4611686018427387904 ≤ i) && decide (i < 4611686018427387904) && decide (-4611686018427387904 ≤ j) && decide (j < 4611686018427387904) then .ok (.items (rangeD i (j - i).toNat)) S2 else .bad
    | _, _ => .bad
  | .zip a b, F, S => (ev X rs a F S).bind fun x S1 => (ev X rs b F S1).bind fun y S2 => match x, y with
    | .lst xs, .lst ys => .ok (.items (zipD xs ys)) S2
    | .tup xs, .tup ys => .ok (.items (zipD xs ys)) S2
    | _, _ => .bad
  | .enm a, F, S => (ev X rs a F S).bind fun x S1 => match x with
    | .lst xs => .ok (.items (enumD 0 xs)) S1
    | _ => .bad
def evG (X : Cxt) (rs : List Nat) (e : Fr → Sto → Out D) : List Gen → Fr → Fr → Sto → Out (List D)
  | [], _, F, S => (e F S).bind fun x S1 => .ok [x] S1
  | .mk t it ifs :: gs, Fi, F, S => (evI X rs it Fi S).bind fun s S1 => turns (fun x S2 => match bindT t x F with
      | some F2 => (evT X rs ifs F2 S2).bind fun b S3 => if b then evG X rs e gs F2 (wipeH F2 gs) S3 else .ok [] S3
      | none => .bad) s s.len 0 [] S1
end

end OM
set_option Elab.async false
set_option linter.all false
set_option maxRecDepth 100000
set_option maxHeartbeats 2000000
/-! OmExc: an exception class of the program whose __init__ calls its base's and stores a tag and, perhaps, one value: made. -/
namespace OM
open PySem PySem.Spec PyProof.Rows

/-- an exception's object: no flight, no context -/
abbrev xob (C t : Addr) (d : Option Addr) : Obj := { cls := .ref C, dict := d, data := .fields #[.ref t, .none, .none, .none, .bool false, .none] }
/-- the class of which an exception is: what its built-in base needs -/
structure XBase (B newId i : String) (bmB : List Value) : Prop where
  kx : PySem.W.KxsFacts B i
  ba : ExcBaseFacts B newId i bmB
  st : StoreFacts B bmB "object.__setattr__" "object"
theorem xb_val : XBase "ValueError" "ValueError.__new__" "ValueError.__init__" [.type "ValueError", .type "Exception", .type "BaseException", .type "object"] := ⟨PySem.W.kxs_ValueError, F.excBase_ValueError, F.store_ValueError⟩
theorem xb_look : XBase "LookupError" "LookupError.__new__" "LookupError.__init__" [.type "LookupError", .type "Exception", .type "BaseException", .type "object"] := ⟨PySem.W.kxs_LookupError, F.excBase_LookupError, F.store_LookupError⟩
theorem xb_ind : XBase "IndexError" "IndexError.__new__" "IndexError.__init__" [.type "IndexError", .type "LookupError", .type "Exception", .type "BaseException", .type "object"] := ⟨PySem.W.kxs_IndexError, F.excBase_IndexError, F.store_IndexError⟩
section
open Builtin Builtin.ObjectAttr
variable {prog : Program} {w : World} {A : Around} {E : Value → Shared → Prop} {R : Result → Shared → Prop} {hp : Heap} {g : Array GenState} {d : Drawn} {t : Nat} {os : OsState}
variable {K : W.Frag} {B newId i : String} {bmB : List Value} {x C dx : Addr} {fv : Array Value} {cd : ClassData} {name : Str} {tk : Tok} {v : Value}
theorem taker_no (ha : W.findIn K (.ref C) name = some none) : W.takerIn K C name = some none := by
  unfold W.takerIn
  rw [ha]
  rfl
/-- the first field -/
theorem xset_new (b : XBase B newId i bmB) (X : K.In hp) (hx : hp.get? x = some { cls := .ref C, data := .fields fv }) (hcd : W.clsIn K C = some cd) (hh : cd.hasDict = true) (ho : W.excOver K C bmB = true) (hs : W.findIn K (.ref C) "__setattr__" = some (some (.builtin "object.__setattr__"))) (ha : W.findIn K (.ref C) name = some none) {Q : Unit → Shared → Prop}
    (hq : ∀ h' tk' dx, (∀ c o, c ≠ x → hp.get? c = some o → h'.get? c = some o) → hp.objs.size ≤ dx → dx ≠ x → h'.get? x = some { cls := .ref C, dict := some dx, data := .fields fv } →
      h'.Ns1 dx (fun y => if y = name then some v else none) → Q () ⟨h', g, d, tk', os⟩) :
    wpAny (model prog w) A (setAttr (.ref x) name v) Q E ⟨hp, g, d, t, os⟩ := by
  have I : W.InstAt hp x { cls := .ref C, data := .fields fv } C none := ⟨hx, rfl, rfl, trivial⟩
  have hxs : x ≠ hp.objs.size := Nat.ne_of_lt (Heap.lt_size hx)
  refine W.set_plain X I hs (W.osa_openX (s := ⟨hp, g, d, t + 1, os⟩) b.st X I ho (taker_no ha) fun bb => ?_)
  have hcls : W.Looks (model prog w) hp (classData C) cd := W.looks_clsIn X hcd
  obtain ⟨nm, bs, mro, ns, qn, hd, sn, sb, ab, col, del⟩ := cd
  dsimp only at hh
  subst hh
  show wpAny _ _ (storeInOwnDict (.ref x) (.ref C) (.str name t) name v bb) _ _ _
  unfold storeInOwnDict ownDictForStores
  repeat (first | with_reducible refine PX.store_in_new ?_ ?_ | with_reducible refine wpAny_loadPart_at hx ?_ | with_reducible refine hcls.at ?_ | wp_step)
  · exact ⟨_, #[], _, (Heap.get?_update_ne _ _ _ _ hxs.symm).trans (Heap.get?_push_at rfl rfl), rfl, fun e he => absurd he (by simp), fun _ => rfl⟩
  · intro h' tk' hn' hs'
    have hx₁ : (hp.push { cls := .type "dict", data := .dict #[] }).get? x = some { cls := .ref C, data := .fields fv } := Heap.get?_push_of_some _ hx
    exact hq h' tk' hp.objs.size (fun c o hc e => (hs'.2 c (Nat.ne_of_lt (Heap.lt_size e))).trans ((Heap.get?_update_ne _ _ _ _ hc).trans (Heap.get?_push_of_some _ e))) (Nat.le_refl _) hxs.symm
      ((hs'.2 x hxs).trans (Heap.get?_update_self _ hx₁ rfl)) hn'
/-- a further field -/
theorem xset_old (b : XBase B newId i bmB) (X : K.In hp) {m0 : Str → Option Value} {nl : List Str} (hx : hp.get? x = some { cls := .ref C, dict := some dx, data := .fields fv }) (hn : hp.Ns1 dx m0) (hw : Within m0 nl) (hz : nl.length ≤ 1000) (hcd : W.clsIn K C = some cd) (hh : cd.hasDict = true) (ho : W.excOver K C bmB = true) (hs : W.findIn K (.ref C) "__setattr__" = some (some (.builtin "object.__setattr__"))) (ha : W.findIn K (.ref C) name = some none) {Q : Unit → Shared → Prop}
    (hq : ∀ h' tk', (∀ c o, c ≠ dx → hp.get? c = some o → h'.get? c = some o) → h'.Ns1 dx (fun y => if y = name then some v else m0 y) → Q () ⟨h', g, d, tk', os⟩) :
    wpAny (model prog w) A (setAttr (.ref x) name v) Q E ⟨hp, g, d, t, os⟩ := by
  obtain ⟨oD, _, _, hoD, _, _⟩ := hn.count hw
  have I : W.InstAt hp x { cls := .ref C, dict := some dx, data := .fields fv } C (some oD) := ⟨hx, rfl, rfl, hoD⟩
  refine W.set_plain X I hs (W.osa_openX (s := ⟨hp, g, d, t + 1, os⟩) b.st X I ho (taker_no ha) fun bb => ?_)
  have hcls : W.Looks (model prog w) hp (classData C) cd := W.looks_clsIn X hcd
  obtain ⟨nm, bs, mro, ns, qn, hd, sn, sb, ab, col, del⟩ := cd
  dsimp only at hh
  subst hh
  show wpAny _ _ (storeInOwnDict (.ref x) (.ref C) (.str name t) name v bb) _ _ _
  unfold storeInOwnDict ownDictForStores
  repeat (first | with_reducible refine PX.store_in_old hn hw hz ?_ | with_reducible refine wpAny_loadPart_at hx ?_ | with_reducible refine hcls.at ?_ | wp_step)
  intro h' tk' hn' hs'
  exact hq h' tk' (fun c o hc e => (hs'.2 c hc).trans e) hn'
end
/-! ### the __init__ of such a class, run -/
/-- what the written part says of the class at C, its __init__ at fI with its code at cda and its cell at cc, the tag's name, the field's -/
structure XCls (P : Program) (K : W.Frag) (C fI cda cc : Addr) (B newId i : String) (bmB : List Value) (tag : Str) (fld : Option Str) : Prop where
  base : XBase B newId i bmB
  cls : ∃ cd, W.clsIn K C = some cd ∧ cd.hasDict = true
  over : W.excOver K C bmB = true
  ini : W.excInitIn K C bmB newId = true
  sa : W.findIn K (.ref C) "__setattr__" = some (some (.builtin "object.__setattr__"))
  tg : W.findIn K (.ref C) tag = some none
  fl : ∀ f, fld = some f → W.findIn K (.ref C) f = some none
  sup : W.ks_superIn K C C "__init__" = some (some (.builtin i))
  sub : W.subIn K (.ref C) (.type B) = some true
  slf : W.mroIn K C (.ref C) = some true
  cell : ∃ cl cld csl, K.lookup cc = some ⟨cl, cld, .cell (some (.ref C)), csl⟩
  code : ∃ ccl cdd vs ccs file tf, K.lookup cda = some ⟨ccl, cdd, .fields vs, ccs⟩ ∧ vs[2]? = some (.str file tf) ∧ ((P.main.file : Str) == file) = true
  th : W.nsIn K cStatics "thirdparty.any" = some none
  gs : W.nsIn K mainGlobals "super" = some none
  top : (P.main.scope.names.lookup ("super" : Str)).isSome = false
section
open W Calls L2
variable {P : Program} {w : World} {A : Around} {E : Value → Shared → Prop} {hp : Heap} {g : Array GenState} {d : Drawn} {t : Nat} {os : OsState}
variable {K : W.Frag} {C fI cda cc : Addr} {B newId i : String} {bmB : List Value} {tag : Str} {fld : Option Str} {mg mb : Str → Option Value}
/-- super().__init__() in such an __init__: nothing of it is told but that the object's first field is new -/
theorem xsuper {e L t0 : Addr} {self : Str} {m : Str → Option Value} {body : List Stmt} {qual : Str} {scope : Scope} {fd : FuncData} {ar : Arg} {oc : Value} {od : Option Addr} {osl : Array (Option Value)} {p0 p1 p2 p3 : Pos} {Q : Value → Shared → Prop}
    (xc : XCls P K C fI cda cc B newId i bmB tag fld) (X : K.In hp) (G : hp.Ns mainGlobals mg) (Gb : hp.Ns builtinsNs mb) (hb : mb "super" = some (.type "super")) (hm : mg "super" = none)
    (lk : K.lookup fI = some ⟨oc, od, .func fd, osl⟩) (hpar : (fd.params.posonlyargs ++ fd.params.args).head? = some ar) (har : ar.arg = self)
    (hL : hp.Ns L m) (hs : m self = some (.ref e)) (he : hp.get? e = some (xob C t0 none)) (eL : e ≠ L)
    (k1 : scope.names.lookup ("super" : Str) = some .globalImplicit) (k2 : scope.names.lookup ("__class__" : Str) = some .free) (k3 : scope.names.lookup self = some .local) (k4 : scope.kind = .function) (hline : (p2.endLine == p3.line) = true)
    (hq : ∀ h' tk t1, (∀ b o, b ≠ e → hp.get? b = some o → h'.get? b = some o) → h'.get? e = some (xob C t1 none) → Q .none ⟨h', g, d, tk, os⟩) :
    _root_.PySem.wpAt (model P w) A (.func body (ksEnv qual scope L fI (.ref cda) cc)) (eval (.Call (.Attribute (.Call (.Name "super" p0) [] [] p1) "__init__" p2) [] [] p3) (ksEnv qual scope L fI (.ref cda) cc)) Q E ⟨hp, g, d, t, os⟩ := by
  obtain ⟨cd, hcd, hdict⟩ := xc.cls
  obtain ⟨cl, cld, csl, hcell⟩ := xc.cell
  obtain ⟨ccl, cdd, vs, ccs, file, tf, hcode, hvs, hfile⟩ := xc.code
  obtain ⟨oD, hD1, hD2⟩ : ∃ oD, hp.get? C = some oD ∧ oD.data = .cls cd := by
    unfold clsIn at hcd
    split at hcd
    · rename_i z1 z2 z3 z4 z5
      cases hcd
      exact ⟨_, X _ _ z5, rfl⟩
    · cases hcd
  have I : InstAt hp e (xob C t0 none) C none := ⟨he, rfl, rfl, trivial⟩
  have ne : e ≠ C := ks_ne X I hcd
  refine ks_wpAt_MethodCall (ks_wpAt_super_base (env := ksEnv qual scope L fI (.ref cda) cc) k1 k2 (by decide) rfl (X _ _ lk) rfl hpar rfl (X _ _ hcode) rfl hvs hfile xc.top ?_) (by
    rw [arm_eval_Call]
    have z : ∀ ov, methodCall (.Call (.Name "super" p0) [] [] p1) "__init__" p2 p3 (ksEnv qual scope L fI (.ref cda) cc) ov 0 [] [] = _ := fun ov => mcall_line (by rfl) hline
    exact congrArg _ (funext fun ov => congrArg _ (funext fun _ => z ov)))
  refine ks_loadName_global k4 k1 (loadGlobal_builtin (env := ksEnv qual scope L fI (.ref cda) cc) G hm Gb hb ⟨rfl, ?_⟩)
  refine wpAny_loadName_free k4 k2 rfl ⟨_, X _ _ hcell, rfl⟩ ?_
  rw [har]
  refine wpAny_loadName_local k4 k3 hL hs ?_
  refine ks_wpAny_isType_cls hD1 hD2 ⟨rfl, ?_⟩
  refine ks_wpAny_call_super hD1 hD2 I.at_ I.cls (fun c z => ?_) (looks_mroIn X xc.slf) (fun h1 e1 up1 => ?_)
  · cases z
  have X1 : K.In h1 := X.keeps up1
  have sup := xc.sup
  unfold ks_superIn at sup
  rw [hcd] at sup
  have hI1 : Looks (model P w) h1 (isInstance (.ref e) (.type B)) true := (show InstAt h1 e (xob C t0 none) C none from ⟨up1 _ _ he, rfl, rfl, trivial⟩).type.andThen (looks_subIn X1 xc.sub)
  refine kxs_getMethod xc.base.kx e1 (looks_opaque X1 xc.th) (l₀ := cd.mro) ((looks_clsIn X1 hcd).andThen .now) rfl X1 sup hI1 ne (by decide) ?_
  have up2 : ∀ b o, h1.get? b = some o → (h1.push (kxs_mw i e)).get? b = some o := fun b o z => Heap.get?_push_of_some _ z
  have hu : (h1.push (kxs_mw i e)).get? h1.objs.size = some (kxs_mw i e) := Heap.get?_push_size _ rfl
  have he2 := up2 _ _ (up1 _ _ he)
  show wpAny _ _ (callWith p3 (.ref h1.objs.size) [] _ []) _ _ _
  refine kxs_callWith (i := i) (x := e) rfl (evalArgs_empty ⟨hu, ?_⟩)
  obtain ⟨nm, N', qn, bs, bm, hdct, sn, sb, ab, col, dd, z0, z1, z2, z3, z5, hC, hT⟩ := excInit_of (X1.keeps up2) xc.ini
  refine wpAny_call (codeAny_of_tree ?_)
  show wpAny _ A.in1 (callAny (.ref h1.objs.size) ⟨[], []⟩) _ _ _
  simp only [callAny]
  refine wpAny_bind (wpAny_load hu ?_)
  simp only [kxs_mw, show (Value.type "method-wrapper" == Value.type "method" || Value.type "method-wrapper" == Value.type "builtin_function_or_method" || Value.type "method-wrapper" == Value.type "method-wrapper") = true by decide, if_true]
  refine KFB.if_so (by decide) (wpAny_bind (check_bound_init xc.base.ba.toExcCallFacts hC he2 rfl (wpAny_bind (wpAny_pure (wpAny_pure ⟨plainId_quiet xc.base.ba.init.plain _, codeAny_builtin xc.base.ba.initEntry ?_⟩)))))
  refine exc_init_tree (cls := .ref C) (t0 := t0) (dv := none) (c2 := .none) (c3 := .none) (b4 := .bool false) he2 (by rw [sizeLine_eq]; exact Nat.zero_le _) fun h3 k3 e3 _ => ?_
  exact hq h3 _ _ (fun b o hb z => k3 b o hb (up2 _ _ (up1 _ _ z))) e3
/-- the dict of an exception behind its __init__ -/
def xdict (tag T : Str) (tk : Tok) (fld : Option (Str × Value)) : Str → Option Value := fun y => match fld with
  | some (f, v) => if y = f then some v else if y = tag then some (.str T tk) else none
  | none => if y = tag then some (.str T tk) else none
/-- the last row of such an __init__ -/
inductive XLast (self : Str) : List Stmt → Option (Str × Str) → Prop where
  | no : XLast self [] none
  | yes {f p : Str} {q1 q2 q3 q4 : Pos} : (p == ("__debug__" : Str)) = false → XLast self [.Assign [.Attribute (.Name self q1) f q2] (.Name p q3) q4] (some (f, p))
theorem xinit {e t0 : Addr} {self tagN T : Str} {fp : Option (Str × Str)} {rest : List Stmt} {qual nm : Str} {params : Arguments} {scope : Scope} {ar : Arg} {dV kV doc pm ct oc : Value} {an od : Option Addr} {osl : Array (Option Value)} {p0 p1 p2 p3 p4 r1 r2 r3 r4 : Pos} {j : Nat} {args : Args} {binds : List (Str × Value)} {R : Result → Shared → Prop}
    (xc : XCls P K C fI cda cc B newId i bmB tagN (fp.map (·.1))) (X : K.In hp) (G : hp.Ns mainGlobals mg) (Gb : hp.Ns builtinsNs mb) (hb : mb "super" = some (.type "super")) (hm : mg "super" = none) (lim : hp.NoLimit) (room : A.depth < recursionLimit)
    (lk : K.lookup fI = some ⟨oc, od, .func (ksFn nm qual params (.Expr (.Call (.Attribute (.Call (.Name "super" p0) [] [] p1) "__init__" p2) [] [] p3) p4 :: .Assign [.Attribute (.Name self r1) tagN r2] (.Constant (.str T) j r3) r4 :: rest) scope dV kV doc pm an (.ref cda) ct cc), osl⟩)
    (hcd : codeIn K (.ref cda) qual = true) (hl : XLast self rest fp) (hpar : (params.posonlyargs ++ params.args).head? = some ar) (har : ar.arg = self) (he : hp.get? e = some (xob C t0 none))
    (hKe : K.lookup e = none)
    (hbind : BindsTo ⟨hp, g, d, t, os⟩ (ksFn nm qual params (.Expr (.Call (.Attribute (.Call (.Name "super" p0) [] [] p1) "__init__" p2) [] [] p3) p4 :: .Assign [.Attribute (.Name self r1) tagN r2] (.Constant (.str T) j r3) r4 :: rest) scope dV kV doc pm an (.ref cda) ct cc) args binds)
    (hself : binds.reverse.lookup self = some (.ref e)) (vP : Value) (hp2 : ∀ f p, fp = some (f, p) → binds.reverse.lookup p = some vP ∧ scope.names.lookup p = some .local ∧ f ≠ tagN)
    (k1 : scope.names.lookup ("super" : Str) = some .globalImplicit) (k2 : scope.names.lookup ("__class__" : Str) = some .free) (k3 : scope.names.lookup self = some .local) (k4 : scope.kind = .function) (k5 : scope.isCoroutine = false) (k6 : scope.isGenerator = false) (k7 : ∀ x ∈ scope.names, x.2 ≠ .cell)
    (k8 : ∀ x ∈ binds, scope.names.lookup x.1 = some .local) (kd : (self == ("__debug__" : Str)) = false) (hline : (p2.endLine == p3.line) = true)
    (hq : ∀ h' tk t1 dx tt, (∀ b o, b ≠ e → hp.get? b = some o → h'.get? b = some o) → hp.objs.size ≤ dx → h'.get? e = some (xob C t1 (some dx)) → h'.Ns1 dx (xdict tagN T tt (fp.map fun q => (q.1, vP))) → R (.ok (.ret .none)) ⟨h', g, d, tk, os⟩) :
    codeAny (model P w) A (.call (.ref fI) args) R ⟨hp, g, d, t, os⟩ := by
  obtain ⟨cd, hcls, hdict⟩ := xc.cls
  refine ks_codeAny_call_defAt room (X _ _ lk) rfl lim (codeRec_of X hcd) rfl hbind k7 k8 (fun h0 hns up0 => ?_) k5 k6 k4
  have eL : e ≠ hp.objs.size := Nat.ne_of_lt (Heap.lt_size he)
  refine ks_wpAt_execs_cons (ks_wpAt_Expr_any (xsuper xc (X.keeps up0) (G.keeps up0) (Gb.keeps up0) hb hm lk hpar har hns hself (up0 _ _ he) eL k1 k2 k3 k4 hline fun h1 tk1 t1 up1 e1 => wpAt_of_wpAny ?_) (by unfold interactive; simp [callEnv, newEnv, k4]))
  have L1 : h1.Ns hp.objs.size fun y => binds.reverse.lookup y := hns.at' fun o z => up1 _ _ (Ne.symm eL) z
  have K1 : K.In h1 := fun b o z => up1 b o (fun y => by rw [y, hKe] at z; cases z) (up0 _ _ (X _ _ z))
  have sz1 : hp.objs.size ≤ h1.objs.size := by
    obtain ⟨oL, _, _, hoL, _⟩ := L1
    exact Nat.le_of_lt (Heap.lt_size hoL)
  refine wpAny_execs_cons (plainObj_wpAny_Assign_Attribute (wpAny_Constant_str (wpAny_Name (wpAny_loadName_local k4 k3 L1 hself ?_) kd)))
  refine xset_new xc.base K1 e1 hcls hdict xc.over xc.sa xc.tg fun h2 tk2 dx up2 ge2 ne2 e2 n2 => ?_
  have K2 : K.In h2 := fun b o z => up2 b o (fun y => by rw [y, hKe] at z; cases z) (K1 _ _ z)
  have L2' : h2.Ns hp.objs.size fun y => binds.reverse.lookup y := L1.at' fun o z => up2 _ _ (Ne.symm eL) z
  cases hl with
  | no =>
    refine wpAny_execs_nil (hq h2 tk2 t1 dx tk1 (fun b o hb z => up2 b o hb (up1 b o hb (up0 b o z))) (Nat.le_trans sz1 ge2) e2 n2)
  | @yes f pn q1 q2 q3 q4 dp =>
    obtain ⟨v1, v2, v3⟩ := hp2 f pn rfl
    have dl : dx ≠ hp.objs.size := fun z => by
      obtain ⟨oL, _, _, hoL, _⟩ := L1
      exact Nat.lt_irrefl _ (Nat.lt_of_lt_of_le (Heap.lt_size hoL) (z ▸ ge2))
    refine wpAny_execs_cons (plainObj_wpAny_Assign_Attribute (wpAny_Name (wpAny_loadName_local k4 v2 L2' v1 (wpAny_Name (wpAny_loadName_local k4 k3 L2' hself ?_) kd)) dp))
    refine xset_old xc.base K2 (nl := [tagN]) e2 n2 (fun y hy => ?_) (by simp) hcls hdict xc.over xc.sa (xc.fl f rfl) fun h3 tk3 up3 n3 => ?_
    · by_cases z : y = tagN
      · rw [z]; exact List.mem_cons_self
      · exact absurd (if_neg z) hy
    · refine wpAny_execs_nil (hq h3 tk3 t1 dx tk1 (fun b o hb z => ?_) (Nat.le_trans sz1 ge2) (up3 _ _ (Ne.symm ne2) e2) n3)
      have z1 := up1 b o hb (up0 b o z)
      exact up3 b o (fun y => by
        rw [y] at z1
        exact Nat.lt_irrefl _ (Nat.lt_of_lt_of_le (Heap.lt_size z1) ge2)) (up2 b o hb z1)
end
end OM
set_option Elab.async false
set_option linter.all false
set_option maxRecDepth 100000
set_option maxHeartbeats 2000000
/-! OmExc2: an exception of the program, made: as what is raised, as a value. -/
namespace OM
open PySem PySem.Spec PyProof.Rows L2

/-- all that the making of an exception of the class at C needs -/
structure XInfo (P : Program) (K : PySem.W.Frag) (C : Addr) (tag T : Str) (fld : Option Str) : Prop where
  it : ∃ (fI cda cc : Addr) (B newId i : String) (bmB : List Value) (nm qual self : Str) (params : Arguments) (rest : List Stmt) (scope : Scope) (ar : Arg) (dV kV doc pm ct oc : Value) (an od : Option Addr) (osl : Array (Option Value)) (p0 p1 p2 p3 p4 r1 r2 r3 r4 : Pos) (j : Nat),
    XCls P K C fI cda cc B newId i bmB tag fld ∧
    K.lookup fI = some ⟨oc, od, .func (PySem.W.ksFn nm qual params (.Expr (.Call (.Attribute (.Call (.Name "super" p0) [] [] p1) "__init__" p2) [] [] p3) p4 :: .Assign [.Attribute (.Name self r1) tag r2] (.Constant (.str T) j r3) r4 :: rest) scope dV kV doc pm an (.ref cda) ct cc), osl⟩ ∧
    PySem.W.codeIn K (.ref cda) qual = true ∧ XLast self rest (fld.map fun f => (f, f)) ∧ (params.posonlyargs ++ params.args).head? = some ar ∧ ar.arg = self ∧
    (∀ (s : Shared) (e : Addr) (us : List Value), us.length = fld.toList.length → BindsTo s (PySem.W.ksFn nm qual params (.Expr (.Call (.Attribute (.Call (.Name "super" p0) [] [] p1) "__init__" p2) [] [] p3) p4 :: .Assign [.Attribute (.Name self r1) tag r2] (.Constant (.str T) j r3) r4 :: rest) scope dV kV doc pm an (.ref cda) ct cc) ⟨.ref e :: us, []⟩ ((self, .ref e) :: fld.toList.zip us)) ∧
    scope.names.lookup ("super" : Str) = some .globalImplicit ∧ scope.names.lookup ("__class__" : Str) = some .free ∧ scope.names.lookup self = some .local ∧ scope.kind = .function ∧ scope.isCoroutine = false ∧ scope.isGenerator = false ∧ (∀ x ∈ scope.names, x.2 ≠ .cell) ∧
    (self == ("__debug__" : Str)) = false ∧ (p2.endLine == p3.line) = true ∧ (∀ f, fld = some f → scope.names.lookup f = some .local ∧ f ≠ tag ∧ f ≠ self) ∧
    PySem.W.findIn K (.ref C) "__init__" = some (some (.ref fI)) ∧ PySem.W.typeIn K (.ref fI) = some (.type "function")
  exC : PySem.W.subIn K (.ref C) (.type "BaseException") = some true
  tyC : PySem.W.typeIn K (.ref C) = some (.type "type")
  kC : PySem.W.keepIn K (.ref C) = true
  nt : ∀ f, fld = some f → f ≠ tag

theorem nodup_self {self : Str} {fld : Option Str} {us : List Value} {e : Addr} (h : ∀ f, fld = some f → f ≠ self) : (((self, Value.ref e) :: fld.toList.zip us)).reverse.lookup self = some (.ref e) := by
  cases fld with
  | none => simp
  | some f =>
    cases us with
    | nil => simp
    | cons u us =>
      have z := h f rfl
      simp only [Option.toList, List.zip_cons_cons, List.zip_nil_left, List.reverse_cons, List.reverse_nil, List.nil_append, List.cons_append, List.lookup_cons]
      have q : (self == f) = false := by
        rw [beq_eq_false_iff_ne]
        exact fun y => z y.symm
      rw [q]
      simp
/-- the dict that a made exception has -/
def xfields (tag T : Str) (fld : Option Str) (vs : List V) : List (Str × V) := fld.toList.zip vs ++ [(tag, .str T)]
section
variable {X : Cx} {pins : List (Addr × Obj)} {σ : L2.St} {H : Hp} {s : Shared} {C : Addr} {tag T : Str} {fld : Option Str}
theorem xmake (xi : XInfo X.prog X.K C tag T fld) (I : Inv X pins σ H s) {us : List Value} {vs : List V} (rv : Vals vs us) (hl : vs.length = fld.toList.length) (hd : (X.A.under (.builtin "type.__call__" ⟨.ref C :: us, []⟩)).depth < recursionLimit) {Q : Value → Shared → Prop} {E : Value → Shared → Prop}
    (hq : ∀ h' tk t1 a dx, (∀ b o, s.heap.get? b = some o → h'.get? b = some o) → s.heap.objs.size ≤ a → s.heap.objs.size ≤ dx → dx ≠ a → h'.get? a = some (xob C t1 (some dx)) → (∃ mA, h'.Ns1 dx mA ∧ ∀ f, RelO ((xfields tag T fld vs).lookup f) (mA f)) → Q (.ref a) { s with heap := h', toks := tk }) :
    wpAny (model X.prog X.w) X.A (call (.ref C) us) Q E s := by
  obtain ⟨fI, cda, cc, B, newId, i, bmB, nm, qual, self, params, rest, scope, ar, dV, kV, doc, pm, ct, oc, an, od, osl, p0, p1, p2, p3, p4, r1, r2, r3, r4, j, xc, lk, hcd, xl, hpar, har, hb, k1, k2, k3, k4, k5, k6, k7, kd, hline, hf, iC, tI⟩ := xi.it
  have hlu : us.length = fld.toList.length := rv.length.symm.trans hl
  obtain ⟨nmC, N', qn, bs, bm, hdct, sn, sb, ab, col, dd, z0, z1, z2, z3, z5, hC, hT⟩ := PySem.W.excInit_of I.kIn xc.ini
  have kin := I.kIn
  have lim := I.nolimit
  have bk := I.bk
  obtain ⟨mb, hmb, hmb2⟩ := I.mod.blt
  have G := I.mod.glob.keeps I.bk
  have Gb := hmb.keeps I.bk
  have hm : X.mg "super" = none := PySem.W.mg_none_of I.mod.kin I.mod.glob xc.gs
  have bsz : X.base.objs.size ≤ s.heap.objs.size := Nat.le_trans I.ok.bsz I.sz
  have hmb3 := (hmb2 "super" (by decide)).trans (show bootBuiltins "super" = some (.type "super") from by decide +kernel)
  obtain ⟨hp, g, d, t, os⟩ := s
  have kk : ∀ b o, hp.get? b = some o → ((hp.push (PySem.W.kdv_tup us)).push (PX.excO C hp.objs.size)).get? b = some o := fun b o e => Heap.get?_push_of_some _ (Heap.get?_push_of_some _ e)
  have hget : ((hp.push (PySem.W.kdv_tup us)).push (PX.excO C hp.objs.size)).get? (hp.objs.size + 1) = some (xob C hp.objs.size none) := by heap_get
  have hKe : X.K.lookup (hp.objs.size + 1) = none := by
    cases z : X.K.lookup (hp.objs.size + 1) with
    | none => rfl
    | some o =>
      have y := Heap.lt_size (I.mod.kin _ _ z)
      exact absurd (Nat.lt_of_lt_of_le y bsz) (Nat.not_lt.mpr (Nat.le_succ _))
  have hus : us.length ≤ sizeLine := by
    rw [hlu, sizeLine_eq]
    cases fld <;> simp
  refine wpAny_call (PX.call_own xc.base.ba hT hC (PySem.W.looks_findIn kin iC) (fun self => PySem.W.bind_fn kin self tI) hus ?_)
  refine xinit (g := g) (d := d) (t := t) (os := os) (fp := fld.map fun f => (f, f)) (binds := (self, .ref (hp.objs.size + 1)) :: fld.toList.zip us) (vP := us.getD 0 .none) (by
    have e : (fld.map fun f => (f, f)).map (·.1) = fld := by cases fld <;> rfl
    rw [e]; exact xc) (kin.keeps kk) (G.keeps kk) (Gb.keeps kk) hmb3 hm (lim.keeps kk) hd lk hcd xl hpar har hget hKe (hb _ _ _ hlu) (nodup_self fun f e => (hf f e).2.2) (fun f p e => ?_) k1 k2 k3 k4 k5 k6 k7 (fun x hx => ?_) kd hline ?_
  · cases fld with
    | none => cases e
    | some f0 =>
      obtain ⟨rfl, rfl⟩ : f0 = f ∧ f0 = p := by cases e; exact ⟨rfl, rfl⟩
      obtain ⟨h1, h2, h3⟩ := hf _ rfl
      refine ⟨?_, h1, h2⟩
      cases us with
      | nil => simp at hlu
      | cons u us => simp [List.lookup_cons]
  · rcases List.mem_cons.mp hx with rfl | hx
    · exact k3
    · cases fld with
      | none => simp at hx
      | some f0 =>
        cases us with
        | nil => simp at hx
        | cons u us =>
          simp at hx
          subst hx
          exact (hf f0 rfl).1
  · intro h' tk t1 dx tt up ge e1 n1
    refine ⟨rfl, ?_⟩
    have ge' : hp.objs.size ≤ dx := Nat.le_trans (Nat.le_trans (Nat.le_add_right _ 2) (Nat.le_of_eq (by rw [Heap.size_push, Heap.size_push]))) ge
    refine hq h' tk t1 (hp.objs.size + 1) dx (fun b o z => up b o (fun y => ?_) (kk b o z)) (Nat.le_succ _) ge' (fun y => ?_) e1 ⟨_, n1, fun f => ?_⟩
    · rw [y] at z
      exact absurd (Heap.lt_size z) (Nat.not_lt.mpr (Nat.le_succ _))
    · rw [y] at n1
      obtain ⟨o, es, ep, q1, q2, _⟩ := n1
      rw [e1] at q1
      cases q1
      cases q2
    · unfold xfields xdict
      cases fld with
      | none =>
        simp only [Option.toList, List.zip_nil_left, List.nil_append, Option.map_none, List.lookup_cons]
        by_cases z : f = tag
        · subst z
          simp only [beq_self_eq_true, if_true]
          exact ⟨_, rfl⟩
        · rw [if_neg z]
          have : (f == tag) = false := by simpa using z
          rw [this]
          exact trivial
      | some f0 =>
        have rv' := rv
        cases rv with
        | nil => simp at hl
        | @cons v u vs us r0 rr =>
          have e : (some f0 : Option Str).toList = [f0] := rfl
          simp only [e, List.zip_cons_cons, List.zip_nil_left, List.cons_append, List.nil_append, Option.map_some, List.lookup_cons]
          by_cases z : f = f0
          · subst z
            simp only [beq_self_eq_true, if_true]
            exact r0
          · rw [if_neg z]
            have q : (f == f0) = false := by simpa using z
            rw [q]
            simp only
            by_cases y : f = tag
            · subst y
              simp only [beq_self_eq_true, if_true]
              exact ⟨_, rfl⟩
            · rw [if_neg y]
              have q : (f == tag) = false := by simpa using y
              rw [q]
              exact trivial
/-- .. as what is raised -/
theorem xmake_raise (xi : XInfo X.prog X.K C tag T fld) (I : Inv X pins σ H s) {us : List Value} {vs : List V} (rv : Vals vs us) (hl : vs.length = fld.toList.length) (hd : (X.A.under (.builtin "type.__call__" ⟨.ref C :: us, []⟩)).depth < recursionLimit) {Q : XK} {E : Value → Shared → Prop}
    (hq : ∀ dx, H dx = none → Q (.ref C) (some dx) (upd H dx (.xd (xfields tag T fld vs)))) :
    wpAny (model X.prog X.w) X.A (call (.ref C) us) (MkP X pins σ Q) E s := by
  refine xmake xi I rv hl hd fun h' tk t1 a dx up ga gd ne e1 hn => ?_
  obtain ⟨G, g1, g2⟩ := restrict h' fun b => decide (b ≠ a)
  have gk : ∀ b, b ≠ a → G.get? b = h'.get? b := fun b hb => g1 b (decide_eq_true hb)
  have g0 : G.get? a = none := g2 a (by simp)
  have na : ∀ b o, s.heap.get? b = some o → b ≠ a := fun b o z => Nat.ne_of_lt (Nat.lt_of_lt_of_le (Heap.lt_size z) ga)
  obtain ⟨mA, n1, rel⟩ := hn
  have n2 : G.Ns1 dx mA := n1.at fun o z => (gk dx ne).trans z
  have hdn : H dx = none := I.hok.fresh gd
  have J := I.laid (t' := tk) (h' := G) (a := dx) (o := .xd (xfields tag T fld vs)) (fun b o z => (gk b (na b o z)).trans (up b o z)) gd ⟨mA, n2, rel⟩
  refine ⟨a, _, _, { s with heap := G, toks := tk }, _, .ref C, some dx, rfl, J, fun b o z => ?_, g0, e1, ⟨rfl, rfl⟩, rfl, rfl, ?_, rfl, I.bare, raises_own xi.exC xi.tyC, hq dx hdn⟩
  · by_cases hb : b = a
    · rw [hb, g0] at z; cases z
    · exact (gk b hb).symm.trans z
  · rw [upd_ne (Ne.symm ne)]
    exact I.hok.fresh ga
/-- an exception object that was made and not raised -/
def xvo (a C dx : Addr) : HO := .ext fun h => ∃ t1, h.get? a = some (xob C t1 (some dx))
theorem xvo_ok {P : Program} {w : World} {H : Hp} {h : Heap} {a C dx t1 : Addr} (e : h.get? a = some (xob C t1 (some dx))) : ObjOk P w H h a (xvo a C dx) :=
  ⟨⟨t1, e⟩, ⟨_, e⟩, fun _ _ ⟨t, q⟩ k => ⟨t, k _ q⟩⟩
/-- .. as a value -/
theorem xmake_value (xi : XInfo X.prog X.K C tag T fld) (I : Inv X pins σ H s) {us : List Value} {vs : List V} (rv : Vals vs us) (hl : vs.length = fld.toList.length) (hd : (X.A.under (.builtin "type.__call__" ⟨.ref C :: us, []⟩)).depth < recursionLimit) {Q : VK} {E : Value → Shared → Prop}
    (hq : ∀ a dx, H a = none → H dx = none → dx ≠ a → Q (.ref a) (upd (upd H dx (.xd (xfields tag T fld vs))) a (xvo a C dx))) :
    wpAny (model X.prog X.w) X.A (call (.ref C) us) (EP X pins σ Q) E s := by
  refine xmake xi I rv hl hd fun h' tk t1 a dx up ga gd ne e1 hn => ?_
  obtain ⟨mA, n1, rel⟩ := hn
  have hdn : H dx = none := I.hok.fresh gd
  have han : H a = none := I.hok.fresh ga
  have J1 := I.laid (t' := tk) (h' := h') (a := dx) (o := .xd (xfields tag T fld vs)) up gd ⟨mA, n1, rel⟩
  have hn2 : upd H dx (.xd (xfields tag T fld vs)) a = none := by rw [upd_ne (Ne.symm ne)]; exact han
  have U : Un X.fs [] H (upd (upd H dx (.xd (xfields tag T fld vs))) a (xvo a C dx)) s.heap h' := ⟨fun b o z n _ _ => up b o z, fun b o z n _ _ => ⟨o.slots, up b o z⟩,
    fun b o z n _ => by rw [upd_ne (Nat.ne_of_lt (Nat.lt_of_lt_of_le (Heap.lt_size z) ga)), upd_ne (Nat.ne_of_lt (Nat.lt_of_lt_of_le (Heap.lt_size z) gd))]; exact n,
    fun b o z _ => ⟨o, up b o z⟩, fun b xs z => by rw [upd_ne (ne_of_none z han), upd_ne (ne_of_none z hdn)]; exact z, fun b o u z => by rw [upd_ne (ne_of_none z han), upd_ne (ne_of_none z hdn)]; exact z, fun b ps z => ⟨#[], by rw [upd_ne (ne_of_none z han), upd_ne (ne_of_none z hdn), z]; simp⟩⟩
  have hok : HOk X.prog X.w (upd (upd H dx (.xd (xfields tag T fld vs))) a (xvo a C dx)) h' := fun b o z => by
    by_cases hb : b = a
    · subst hb
      rw [upd_same] at z
      cases z
      exact xvo_ok e1
    · rw [upd_ne hb] at z
      refine (J1.hok b o z).stay (fun c v _ y => y) (fun c y => ?_) fun c xs y => ?_
      · rw [upd_ne (ne_of_none y hn2)]; exact y
      · rw [upd_ne (ne_of_none y hn2)]; exact y
  exact ⟨.ref a, _, I.un (t' := tk) U hok, rfl, hq a dx han hdn ne⟩
end
end OM
set_option Elab.async false
set_option linter.all false
set_option maxRecDepth 100000
/-! OmRep: what stands for abstract data in the layer's heap. -/
namespace OM
open PySem PySem.Spec PyProof.Rows L2

structure RP where
  K : PySem.W.Frag
  fadr : Nat → Addr
  cadr : Nat → Addr
  an : Nat → Str
  /-- lists that are being made: nothing names them -/
  hid : List Addr
  /-- the exception that is handled: where, its class, its dict -/
  pin : List (Addr × Nat × Addr)
  /-- the tables of code objects, by their lambdas' names -/
  tabs : List (Addr × Str)
abbrev RP.h (R : RP) (l : List Addr) : RP := { R with hid := l }
/-- neither a cell nor being made -/
def Fre (R : RP) (r : List Addr) (a : Addr) : Prop := a ∉ r ∧ a ∉ R.hid

def tyN : Nat → String
  | 0 => "NoneType"
  | 1 => "bool"
  | 2 => "int"
  | 3 => "str"
  | 4 => "tuple"
  | 5 => "list"
  | 6 => "dict"
  | _ => "object"

def mkS (x : List Nat) : Str := ⟨x.toArray⟩

def KT (K : PySem.W.Frag) (a : Addr) (xs : List V) : Prop :=
  ∃ (o : Obj) (its : Array Value) (n : Nat), K.lookup a = some o ∧ o.cls = .type "tuple" ∧ o.data = .seq its n ∧ its.size ≤ sizeLine ∧ Vals xs its.toList
def KL (K : PySem.W.Frag) (a : Addr) (xs : List V) : Prop :=
  ∃ (o : Obj) (its : Array Value) (n : Nat), K.lookup a = some o ∧ o.cls = .type "list" ∧ o.dict = none ∧ o.data = .seq its n ∧ its.size ≤ sizeLine ∧ Vals xs its.toList
def FzT (R : RP) (r : List Addr) (H : Hp) (a : Addr) (xs : List V) : Prop := (Rd H a (.tup xs) ∧ Fre R r a) ∨ KT R.K a xs
def FzL (R : RP) (r : List Addr) (H : Hp) (a : Addr) (xs : List V) : Prop := (Rd H a (.lst xs) ∧ Fre R r a) ∨ KL R.K a xs
theorem FzT.sq {R : RP} {r : List Addr} {H : Hp} {a : Addr} {xs : List V} (h : FzT R r H a xs) : SqT R.K H a xs :=
  h.elim (fun z => .inl z.1) .inr
theorem FzL.sq {R : RP} {r : List Addr} {H : Hp} {a : Addr} {xs : List V} (h : FzL R r H a xs) : SqL R.K H a xs :=
  h.elim (fun z => .inl z.1) .inr

mutual
inductive Rep (R : RP) (r : List Addr) (H : Hp) : D → V → Prop where
  | non : Rep R r H .non .non
  | bl (b : Bool) : Rep R r H (.bl b) (.bl b)
  | int (i : Int) : Rep R r H (.int i) (.int i)
  | str {x : List Nat} : okS x = true → Rep R r H (.str x) (.str (mkS x))
  | tup {a : Addr} {ds : List D} {vs : List V} : FzT R r H a vs → Reps R r H ds vs → Rep R r H (.tup ds) (.ref a)
  | lst {a : Addr} {ds : List D} {vs : List V} : H a = some (.lst vs) → Fre R r a → Reps R r H ds vs → Rep R r H (.lst ds) (.ref a)
  | frz {a : Addr} {xs : List Int} : FzL R r H a (xs.map V.int) → Rep R r H (.frz xs) (.ref a)
  | obj {a dx : Addr} {c : Nat} {ns : List Nat} {ds : List D} {fs : List (Str × V)} : H a = some (.ins (R.cadr c) dx fs) → Fre R r a → fs.map (·.1) = ns.map R.an → Reps R r H ds (fs.map (·.2)) → Rep R r H (.obj c ns ds) (.ref a)
  | exc {a dx : Addr} {c : Nat} {ns : List Nat} {ds : List D} {fs : List (Str × V)} : H a = some (xvo a (R.cadr c) dx) → H dx = some (.xd fs) → Fre R r a → Fre R r dx → fs.map (·.1) = ns.map R.an → Reps R r H ds (fs.map (·.2)) → Rep R r H (.exc c ns ds) (.ref a)
  | pin {a dx : Addr} {c : Nat} {ns : List Nat} {ds : List D} {fs : List (Str × V)} : (a, c, dx) ∈ R.pin → H dx = some (.xd fs) → Fre R r dx → fs.map (·.1) = ns.map R.an → Reps R r H ds (fs.map (·.2)) → Rep R r H (.exc c ns ds) (.ref a)
  | ref {n : Nat} {a : Addr} : r[n]? = some a → Rep R r H (.ref n) (.ref a)
  | fn (k : Nat) : Rep R r H (.fn k) (.ref (R.fadr k))
  | cls (k : Nat) : Rep R r H (.cls k) (.ref (R.cadr k))
  | ty (k : Nat) : Rep R r H (.ty k) (.ty (tyN k))
inductive Reps (R : RP) (r : List Addr) (H : Hp) : List D → List V → Prop where
  | nil : Reps R r H [] []
  | cons {d : D} {v : V} {ds : List D} {vs : List V} : Rep R r H d v → Reps R r H ds vs → Reps R r H (d :: ds) (v :: vs)
end

/-- no table of code objects -/
def notT : HO → Bool
  | .tbl _ => false
  | _ => true
theorem isT {o : HO} (h : notT o = false) : ∃ ps, o = .tbl ps := by
  cases o <;> first | exact ⟨_, rfl⟩ | cases h
/-- from one state of the heap and the store to a later one -/
structure Ext (r : List Addr) (H : Hp) (r' : List Addr) (H' : Hp) : Prop where
  old : ∀ n, n < r.length → r'[n]? = r[n]?
  keep : ∀ a o, H a = some o → a ∉ r → notT o = true → H' a = some o
  new : ∀ a, a ∈ r' → a ∈ r ∨ ∀ o, H a = some o → notT o = false
theorem Ext.refl (r : List Addr) (H : Hp) : Ext r H r H := ⟨fun _ _ => rfl, fun _ _ e _ _ => e, fun _ h => .inl h⟩
theorem new_of {H : Hp} {a : Addr} (n : H a = none) : ∀ o, H a = some o → notT o = false := fun o e => by rw [n] at e; cases e
theorem Ext.notin {r r' : List Addr} {H H' : Hp} (e : Ext r H r' H') {a : Addr} {o : HO} (h : H a = some o) (n : a ∉ r) (t : notT o = true) : a ∉ r' := fun z => by
  rcases e.new a z with q | q
  · exact n q
  · rw [q o h] at t; cases t
theorem Ext.len {r r' : List Addr} {H H' : Hp} (e : Ext r H r' H') : r.length ≤ r'.length := by
  cases h : r.length with
  | zero => exact Nat.zero_le _
  | succ k =>
    have q := e.old k (by omega)
    have h1 : k < r.length := by omega
    rw [List.getElem?_eq_getElem h1] at q
    have := (List.getElem?_eq_some_iff.mp q).1
    omega
theorem Ext.mem {r r' : List Addr} {H H' : Hp} (e : Ext r H r' H') {a : Addr} (h : a ∈ r) : a ∈ r' := by
  obtain ⟨n, hn, rfl⟩ := List.getElem_of_mem h
  have q := e.old n hn
  rw [List.getElem?_eq_getElem hn] at q
  exact List.mem_of_getElem? q
theorem Ext.trans {r r1 r2 : List Addr} {H H1 H2 : Hp} (a : Ext r H r1 H1) (b : Ext r1 H1 r2 H2) : Ext r H r2 H2 where
  old := fun n h => (b.old n (Nat.lt_of_lt_of_le h a.len)).trans (a.old n h)
  keep := fun c o h n t => b.keep c o (a.keep c o h n t) (a.notin h n t) t
  new := fun c h => by
    rcases b.new c h with q | q
    · exact a.new c q
    · by_cases hc : c ∈ r
      · exact .inl hc
      · refine .inr fun o e => ?_
        cases t : notT o with
        | false => rfl
        | true => exact t.symm.trans (q o (a.keep c o e hc t))

section
variable {R : RP} {r r' : List Addr} {H H' : Hp}
theorem Ext.fre {a : Addr} {o : HO} (e : Ext r H r' H') (h : H a = some o) (n : Fre R r a) (t : notT o = true) : Fre R r' a := ⟨e.notin h n.1 t, n.2⟩
theorem FzT.ext {a : Addr} {xs : List V} (h : FzT R r H a xs) (e : Ext r H r' H') : FzT R r' H' a xs := by
  rcases h with ⟨h | ⟨o, h⟩, n⟩ | h
  · exact .inl ⟨.inl (e.keep _ _ h n.1 rfl), e.fre h n rfl⟩
  · exact .inl ⟨.inr ⟨o, e.keep _ _ h n.1 rfl⟩, e.fre h n rfl⟩
  · exact .inr h
theorem FzL.ext {a : Addr} {xs : List V} (h : FzL R r H a xs) (e : Ext r H r' H') : FzL R r' H' a xs := by
  rcases h with ⟨h | ⟨o, h⟩, n⟩ | h
  · exact .inl ⟨.inl (e.keep _ _ h n.1 rfl), e.fre h n rfl⟩
  · exact .inl ⟨.inr ⟨o, e.keep _ _ h n.1 rfl⟩, e.fre h n rfl⟩
  · exact .inr h
mutual
theorem Rep.ext : ∀ {d : D} {v : V}, Rep R r H d v → Ext r H r' H' → Rep R r' H' d v
  | _, _, .non, _ => .non
  | _, _, .bl b, _ => .bl b
  | _, _, .int i, _ => .int i
  | _, _, .str x, _ => .str x
  | _, _, .tup f h, e => .tup (f.ext e) (Reps.ext h e)
  | _, _, .lst q n h, e => .lst (e.keep _ _ q n.1 rfl) (e.fre q n rfl) (Reps.ext h e)
  | _, _, .frz f, e => .frz (f.ext e)
  | _, _, .obj q n m h, e => .obj (e.keep _ _ q n.1 rfl) (e.fre q n rfl) m (Reps.ext h e)
  | _, _, .exc q q2 n n2 m h, e => .exc (e.keep _ _ q n.1 rfl) (e.keep _ _ q2 n2.1 rfl) (e.fre q n rfl) (e.fre q2 n2 rfl) m (Reps.ext h e)
  | _, _, .pin p q2 n2 m h, e => .pin p (e.keep _ _ q2 n2.1 rfl) (e.fre q2 n2 rfl) m (Reps.ext h e)
  | _, _, .ref h, e => .ref ((e.old _ (List.getElem?_eq_some_iff.mp h).1).trans h)
  | _, _, .fn k, _ => .fn k
  | _, _, .cls k, _ => .cls k
  | _, _, .ty k, _ => .ty k
theorem Reps.ext : ∀ {ds : List D} {vs : List V}, Reps R r H ds vs → Ext r H r' H' → Reps R r' H' ds vs
  | _, _, .nil, _ => .nil
  | _, _, .cons h t, e => .cons (h.ext e) (Reps.ext t e)
end
mutual
theorem Rep.low : ∀ {d : D} {v : V}, Rep R r H d v → d.lo r.length = true
  | _, _, .non => rfl
  | _, _, .bl b => rfl
  | _, _, .int i => rfl
  | _, _, .str x => rfl
  | _, _, .tup f h => by unfold D.lo; exact Reps.low h
  | _, _, .lst q n h => by unfold D.lo; exact Reps.low h
  | _, _, .frz f => rfl
  | _, _, .obj q n m h => by unfold D.lo; exact Reps.low h
  | _, _, .exc q q2 n n2 m h => by unfold D.lo; exact Reps.low h
  | _, _, .pin p q2 n2 m h => by unfold D.lo; exact Reps.low h
  | _, _, .ref h => by unfold D.lo; exact decide_eq_true (List.getElem?_eq_some_iff.mp h).1
  | _, _, .fn k => rfl
  | _, _, .cls k => rfl
  | _, _, .ty k => rfl
theorem Reps.low : ∀ {ds : List D} {vs : List V}, Reps R r H ds vs → loL r.length ds = true
  | _, _, .nil => rfl
  | _, _, .cons h t => by unfold loL; rw [h.low, Reps.low t]; rfl
end
/-- cells beyond m are forgotten -/
theorem nin_take {m : Nat} {a : Addr} (h : a ∉ r) : a ∉ r.take m := fun z => h (List.mem_of_mem_take z)
theorem Fre.take {m : Nat} {a : Addr} (h : Fre R r a) : Fre R (r.take m) a := ⟨nin_take h.1, h.2⟩
mutual
theorem Rep.take (m : Nat) : ∀ {d : D} {v : V}, Rep R r H d v → d.lo m = true → Rep R (r.take m) H d v
  | _, _, .non, _ => .non
  | _, _, .bl b, _ => .bl b
  | _, _, .int i, _ => .int i
  | _, _, .str x, _ => .str x
  | _, _, .tup f h, l => .tup (f.elim (fun z => .inl ⟨z.1, z.2.take⟩) .inr) (Reps.take m h (by unfold D.lo at l; exact l))
  | _, _, .lst q n h, l => .lst q n.take (Reps.take m h (by unfold D.lo at l; exact l))
  | _, _, .frz f, _ => .frz (f.elim (fun z => .inl ⟨z.1, z.2.take⟩) .inr)
  | _, _, .obj q n k h, l => .obj q n.take k (Reps.take m h (by unfold D.lo at l; exact l))
  | _, _, .exc q q2 n n2 k h, l => .exc q q2 n.take n2.take k (Reps.take m h (by unfold D.lo at l; exact l))
  | _, _, .pin p q2 n2 k h, l => .pin p q2 n2.take k (Reps.take m h (by unfold D.lo at l; exact l))
  | _, _, .ref h, l => .ref (by
      unfold D.lo at l
      have l := of_decide_eq_true l
      rw [List.getElem?_take_of_lt l]; exact h)
  | _, _, .fn k, _ => .fn k
  | _, _, .cls k, _ => .cls k
  | _, _, .ty k, _ => .ty k
theorem Reps.take (m : Nat) : ∀ {ds : List D} {vs : List V}, Reps R r H ds vs → loL m ds = true → Reps R (r.take m) H ds vs
  | _, _, .nil, _ => .nil
  | _, _, .cons h t, l => by
    unfold loL at l
    rw [Bool.and_eq_true] at l
    exact .cons (h.take m l.1) (Reps.take m t l.2)
end
theorem Reps.length : ∀ {ds : List D} {vs : List V}, Reps R r H ds vs → ds.length = vs.length
  | _, _, .nil => rfl
  | _, _, .cons _ t => by rw [List.length_cons, List.length_cons, Reps.length t]
theorem Reps.get : ∀ {ds : List D} {vs : List V} {i : Nat} {d : D}, Reps R r H ds vs → ds[i]? = some d → ∃ v, vs[i]? = some v ∧ Rep R r H d v
  | _, _, _, _, .nil, e => by simp at e
  | _, _, 0, _, .cons h _, e => by simp at e; subst e; exact ⟨_, rfl, h⟩
  | _, _, i + 1, _, .cons _ t, e => by
    obtain ⟨v, q, h⟩ := Reps.get (i := i) t (by simpa using e)
    exact ⟨v, by simpa using q, h⟩
theorem Reps.append : ∀ {ds es : List D} {vs us : List V}, Reps R r H ds vs → Reps R r H es us → Reps R r H (ds ++ es) (vs ++ us)
  | _, _, _, _, .nil, s => s
  | _, _, _, _, .cons h t, s => .cons h (Reps.append t s)
theorem Reps.drop : ∀ {ds : List D} {vs : List V} (n : Nat), Reps R r H ds vs → Reps R r H (ds.drop n) (vs.drop n)
  | _, _, 0, h => h
  | _, _, _ + 1, .nil => .nil
  | _, _, n + 1, .cons _ t => Reps.drop n t
theorem Reps.takeL : ∀ {ds : List D} {vs : List V} (n : Nat), Reps R r H ds vs → Reps R r H (ds.take n) (vs.take n)
  | _, _, 0, _ => .nil
  | _, _, _ + 1, .nil => .nil
  | _, _, n + 1, .cons h t => .cons h (Reps.takeL n t)
theorem Reps.set : ∀ {ds : List D} {vs : List V} (i : Nat) {d : D} {v : V}, Reps R r H ds vs → Rep R r H d v → Reps R r H (ds.set i d) (vs.set i v)
  | _, _, _, _, _, .nil, _ => .nil
  | _, _, 0, _, _, .cons _ t, q => .cons q t
  | _, _, i + 1, _, _, .cons h t, q => .cons h (Reps.set i t q)
end

/-- what a cell holds -/
inductive RepC (R : RP) (r : List Addr) (H : Hp) : Cell → HO → Prop where
  | lst {ds : List D} {vs : List V} : Reps R r H ds vs → RepC R r H (.lst ds) (.lst vs)
  | obj {c : Nat} {dx : Addr} {ns : List Nat} {ds : List D} {fs : List (Str × V)} : fs.map (·.1) = ns.map R.an → Reps R r H ds (fs.map (·.2)) → RepC R r H (.obj c ns ds) (.ins (R.cadr c) dx fs)
def Cell.lo (m : Nat) : Cell → Bool
  | .lst xs => loL m xs
  | .dct ks vs => loL m ks && loL m vs
  | .obj _ _ vs => loL m vs
theorem RepC.ext {R : RP} {r r' : List Addr} {H H' : Hp} {c : Cell} {o : HO} (h : RepC R r H c o) (e : Ext r H r' H') : RepC R r' H' c o := by
  cases h with
  | lst h => exact .lst (h.ext e)
  | obj m h => exact .obj m (h.ext e)
theorem RepC.take {R : RP} {r : List Addr} {H : Hp} {c : Cell} {o : HO} (m : Nat) (h : RepC R r H c o) (l : c.lo m = true) : RepC R (r.take m) H c o := by
  cases h with
  | lst h => exact .lst (h.take m l)
  | obj k h => exact .obj k (h.take m l)

structure RS (R : RP) (rs : List Nat) (r : List Addr) (S : Sto) (H : Hp) : Prop where
  len : r.length = S.length
  nd : r.Nodup
  cell : ∀ (n : Nat) (c : Cell), S[n]? = some c → ∃ a o, r[n]? = some a ∧ H a = some o ∧ RepC R r H c o
  reg : ∀ m ∈ rs, m ≤ S.length ∧ ∀ (n : Nat) (c : Cell), n < m → S[n]? = some c → c.lo m = true
  hd : ∀ a ∈ R.hid, a ∉ r ∧ ∃ xs, H a = some (.lst xs)
  tabs : LamX.Tabs R.tabs H
structure RF (R : RP) (r : List Addr) (H : Hp) (F : Fr) (st : L2.St) : Prop where
  len : F.length = st.length
  at_ : ∀ (i : Nat) (d : D), F[i]? = some (some d) → ∃ v, st[i]? = some (some v) ∧ Rep R r H d v
theorem RF.ext {R : RP} {r r' : List Addr} {H H' : Hp} {F : Fr} {st : L2.St} (h : RF R r H F st) (e : Ext r H r' H') : RF R r' H' F st :=
  ⟨h.len, fun i d q => let ⟨v, a, b⟩ := h.at_ i d q; ⟨v, a, b.ext e⟩⟩
theorem RF.set {R : RP} {r : List Addr} {H : Hp} {F : Fr} {st : L2.St} {i : Nat} {d : D} {v : V} (h : RF R r H F st) (q : Rep R r H d v) : RF R r H (F.set i (some d)) (st.set i (some v)) := by
  refine ⟨by simp [h.len], fun j e x => ?_⟩
  by_cases hj : i = j
  · subst hj
    by_cases hi : i < F.length
    · rw [List.getElem?_set_self hi] at x
      cases x
      exact ⟨v, List.getElem?_set_self (by rw [← h.len]; exact hi), q⟩
    · rw [List.getElem?_eq_none (by simpa using hi)] at x; cases x
  · rw [List.getElem?_set_ne hj] at x ⊢
    exact h.at_ j e x

theorem Reps.mapInt {R : RP} {r : List Addr} {H : Hp} : ∀ (xs : List Int), Reps R r H (xs.map D.int) (xs.map V.int)
  | [] => .nil
  | x :: xs => .cons (.int x) (Reps.mapInt xs)
section
variable {R : RP} {rs : List Nat} {r : List Addr} {S : Sto} {H : Hp}
theorem RS.some_of (h : RS R rs r S H) {a : Addr} (m : a ∈ r) : ∃ o, H a = some o := by
  obtain ⟨n, hn, rfl⟩ := List.getElem_of_mem m
  have hs : n < S.length := by rw [← h.len]; exact hn
  obtain ⟨a, o, e, q, _⟩ := h.cell n S[n] (List.getElem?_eq_getElem hs)
  rw [List.getElem?_eq_getElem hn] at e
  cases e
  exact ⟨o, q⟩
theorem RS.nin (h : RS R rs r S H) {p : Addr} (n : H p = none) : p ∉ r := fun m => by
  obtain ⟨o, q⟩ := h.some_of m
  rw [n] at q; cases q
theorem tabs_upd {T : List (Addr × Str)} {p : Addr} {o : HO} (t : LamX.Tabs T H) (n : (∀ ps, H p ≠ some (.tbl ps)) ∧ ∀ c q, H p ≠ some (LamX.CodeO c q)) : LamX.Tabs T (upd H p o) := fun x hx => by
  obtain ⟨ps, h1, h2, h3⟩ := t x hx
  have q1 : x.1 ≠ p := fun z => n.1 ps (by rw [← z]; exact h1)
  refine ⟨ps, by rw [upd_ne q1]; exact h1, h2, fun pos cv hc => ?_⟩
  obtain ⟨c, e1, e2⟩ := h3 pos cv hc
  have q2 : c ≠ p := fun z => n.2 c _ (by rw [← z]; exact e2)
  exact ⟨c, e1, by rw [upd_ne q2]; exact e2⟩
theorem tabs_new {T : List (Addr × Str)} {p : Addr} {o : HO} (t : LamX.Tabs T H) (n : H p = none) : LamX.Tabs T (upd H p o) := tabs_upd t ⟨fun _ z => (by rw [n] at z; cases z), fun _ _ z => (by rw [n] at z; cases z)⟩
theorem tabs_lst {T : List (Addr × Str)} {p : Addr} {o : HO} {xs : List V} (t : LamX.Tabs T H) (n : H p = some (.lst xs)) : LamX.Tabs T (upd H p o) := tabs_upd t ⟨fun _ z => (by rw [n] at z; cases z), fun _ _ z => (by rw [n] at z; cases z)⟩
theorem tabs_cell {T : List (Addr × Str)} {p : Addr} {o u : HO} {c : Cell} (t : LamX.Tabs T H) (n : H p = some u) (q : RepC R r H c u) : LamX.Tabs T (upd H p o) := by
  cases q <;> exact tabs_upd t ⟨fun _ z => (by rw [n] at z; cases z), fun _ _ z => (by rw [n] at z; cases z)⟩
theorem Ext.fresh {p : Addr} {o : HO} (n : H p = none) : Ext r H r (upd H p o) :=
  ⟨fun _ _ => rfl, fun a u q _ _ => by rw [upd_ne (ne_of_none q n)]; exact q, fun _ m => .inl m⟩
theorem RS.fresh {p : Addr} {o : HO} (h : RS R rs r S H) (n : H p = none) : RS R rs r S (upd H p o) :=
  ⟨h.len, h.nd, fun k c q => by
    obtain ⟨a, u, e, x, y⟩ := h.cell k c q
    exact ⟨a, u, e, by rw [upd_ne (ne_of_none x n)]; exact x, y.ext (.fresh n)⟩, h.reg, fun a m => by
    obtain ⟨h1, o', h2⟩ := h.hd a m
    exact ⟨h1, o', by rw [upd_ne (ne_of_none h2 n)]; exact h2⟩, tabs_new h.tabs n⟩
theorem Ext.push {p : Addr} {o : HO} (n : H p = none) : Ext r H (r ++ [p]) (upd H p o) :=
  ⟨fun k hk => by rw [List.getElem?_append_left hk], fun a u q _ _ => by rw [upd_ne (ne_of_none q n)]; exact q, fun a m => by
    rcases List.mem_append.mp m with m | m
    · exact .inl m
    · rw [List.mem_singleton] at m; subst m; exact .inr (new_of n)⟩
theorem RS.push {p : Addr} {o : HO} {c : Cell} (h : RS R rs r S H) (n : H p = none) (q : RepC R (r ++ [p]) (upd H p o) c o) : RS R rs (r ++ [p]) (S ++ [c]) (upd H p o) := by
  refine ⟨by simp [h.len], ?_, fun k d e => ?_, fun m hm => ?_, fun a m => by
    obtain ⟨h1, o', h2⟩ := h.hd a m
    refine ⟨fun z => ?_, o', by rw [upd_ne (ne_of_none h2 n)]; exact h2⟩
    rcases List.mem_append.mp z with z | z
    · exact h1 z
    · rw [List.mem_singleton] at z
      subst z
      exact absurd (n.symm.trans h2) (by simp), tabs_new h.tabs n⟩
  · rw [List.nodup_append]
    refine ⟨h.nd, by simp, fun a ha b hb => ?_⟩
    rw [List.mem_singleton] at hb
    subst hb
    exact fun z => h.nin n (z ▸ ha)
  · by_cases hk : k < S.length
    · rw [List.getElem?_append_left hk] at e
      obtain ⟨a, u, e1, x, y⟩ := h.cell k d e
      exact ⟨a, u, by rw [List.getElem?_append_left (by rw [h.len]; exact hk)]; exact e1, by rw [upd_ne (ne_of_none x n)]; exact x, y.ext (.push n)⟩
    · rw [List.getElem?_append_right (by omega)] at e
      have hz : k - S.length = 0 := by
        have := (List.getElem?_eq_some_iff.mp e).1
        simp at this
        omega
      rw [hz] at e
      cases e
      refine ⟨p, o, ?_, upd_same, q⟩
      rw [List.getElem?_append_right (by rw [h.len]; omega), h.len, hz]
      rfl
  · obtain ⟨h1, h2⟩ := h.reg m hm
    refine ⟨by simp; omega, fun k d hk e => ?_⟩
    rw [List.getElem?_append_left (by omega)] at e
    exact h2 k d hk e
theorem Ext.write {a : Addr} {o : HO} (m : a ∈ r) : Ext r H r (upd H a o) :=
  ⟨fun _ _ => rfl, fun b u q n _ => by rw [upd_ne (fun z => by subst z; exact n m)]; exact q, fun _ m => .inl m⟩
theorem RS.write {a : Addr} {o : HO} {c : Cell} {n : Nat} (h : RS R rs r S H) (e : r[n]? = some a) (q : RepC R r (upd H a o) c o) (hr : ∀ m ∈ rs, n < m → c.lo m = true) : RS R rs r (S.set n c) (upd H a o) := by
  have hm : a ∈ r := List.mem_of_getElem? e
  refine ⟨by simp [h.len], h.nd, fun k d x => ?_, fun m hm => ?_, fun b m => by
    obtain ⟨h1, o', h2⟩ := h.hd b m
    exact ⟨h1, o', by rw [upd_ne (fun z => by subst z; exact h1 hm)]; exact h2⟩, ?_⟩
  rotate_right
  · have hs : n < S.length := by rw [← h.len]; exact (List.getElem?_eq_some_iff.mp e).1
    obtain ⟨b, u, e1, y, z⟩ := h.cell n S[n] (List.getElem?_eq_getElem hs)
    rw [e] at e1
    cases e1
    exact tabs_cell h.tabs y z
  · by_cases hk : n = k
    · subst hk
      by_cases hi : n < S.length
      · rw [List.getElem?_set_self hi] at x
        cases x
        exact ⟨a, o, e, upd_same, q⟩
      · rw [List.getElem?_eq_none (by simpa using hi)] at x; cases x
    · rw [List.getElem?_set_ne hk] at x
      obtain ⟨b, u, e1, y, z⟩ := h.cell k d x
      refine ⟨b, u, e1, ?_, z.ext (.write hm)⟩
      rw [upd_ne ?_]
      · exact y
      · intro w
        subst w
        obtain ⟨h1, g1⟩ := List.getElem?_eq_some_iff.mp e
        obtain ⟨h2, g2⟩ := List.getElem?_eq_some_iff.mp e1
        exact hk ((List.getElem_inj h.nd).mp (g1.trans g2.symm))
  · obtain ⟨h1, h2⟩ := h.reg m hm
    refine ⟨by simpa using h1, fun k d hk x => ?_⟩
    by_cases he : n = k
    · subst he
      by_cases hi : n < S.length
      · rw [List.getElem?_set_self hi] at x
        cases x
        exact hr m hm hk
      · rw [List.getElem?_eq_none (by simpa using hi)] at x; cases x
    · rw [List.getElem?_set_ne he] at x
      exact h2 k d hk x
theorem RS.fre (h : RS R rs r S H) {p : Addr} (n : H p = none) : Fre R r p := ⟨h.nin n, fun m => by
  obtain ⟨_, o, q⟩ := h.hd p m
  rw [n] at q; cases q⟩
/-- the cell n, as it stands -/
theorem RS.at (h : RS R rs r S H) {n : Nat} {a : Addr} (e : r[n]? = some a) : ∃ c o, S[n]? = some c ∧ H a = some o ∧ RepC R r H c o := by
  have hn : n < S.length := by rw [← h.len]; exact (List.getElem?_eq_some_iff.mp e).1
  obtain ⟨b, o, e1, x, y⟩ := h.cell n S[n] (List.getElem?_eq_getElem hn)
  rw [e] at e1
  cases e1
  exact ⟨_, o, List.getElem?_eq_getElem hn, x, y⟩
end

/-- an exception as it flies -/
def RepX (R : RP) (r : List Addr) (H : Hp) (x : D) (cls : Value) (dd : Option Addr) : Prop :=
  ∃ (c : Nat) (ns : List Nat) (ds : List D) (dx : Addr) (fs : List (Str × V)), x = .exc c ns ds ∧ cls = .ref (R.cadr c) ∧ dd = some dx ∧ H dx = some (.xd fs) ∧ Fre R r dx ∧ fs.map (·.1) = ns.map R.an ∧ Reps R r H ds (fs.map (·.2))

/-- what is wanted behind an outcome -/
def Sat {α β : Type} (R : RP) (W : WX) (rs : List Nat) (st : L2.St) (r : List Addr) (H : Hp) (Rel : List Addr → Hp → α → β → Prop) (o : Out α) (Q : β → Hp → Prop) : Prop :=
  match o with
  | .ok d S' => ∀ r' H' v, Ext r H r' H' → RS R rs r' S' H' → Rel r' H' d v → Q v H'
  | .exc x S' => ∀ r' H' cls dd, Ext r H r' H' → RS R rs r' S' H' → RepX R r' H' x cls dd → W cls dd st H'
  | .bad => False
theorem Sat.shift {α β : Type} {R : RP} {W : WX} {rs : List Nat} {st : L2.St} {r r1 : List Addr} {H H1 : Hp} {Rel : List Addr → Hp → α → β → Prop} {o : Out α} {Q : β → Hp → Prop} (e : Ext r H r1 H1) (h : Sat R W rs st r H Rel o Q) : Sat R W rs st r1 H1 Rel o Q := by
  cases o with
  | ok d S' => exact fun r' H' v e' => h r' H' v (e.trans e')
  | exc x S' => exact fun r' H' c d e' => h r' H' c d (e.trans e')
  | bad => exact h
/-- a reading, from the evaluator -/
def tG {α β : Type} (R : RP) (W : WX) (rs : List Nat) (Rel : List Addr → Hp → α → β → Prop) (g : Fr → Sto → Out α) : L2.St → Hp → (β → Hp → Prop) → Prop :=
  fun st H Q => ∃ r F S, RS R rs r S H ∧ RF R r H F st ∧ Sat R W rs st r H Rel (g F S) Q
theorem bindG {α β γ δ : Type} {R : RP} {W : WX} {rs : List Nat} {st : L2.St} {r : List Addr} {H : Hp} {S : Sto} {F : Fr} {Rel : List Addr → Hp → α → β → Prop} {Rel' : List Addr → Hp → γ → δ → Prop} {g : Fr → Sto → Out α} {f : α → Sto → Out γ} {Q : δ → Hp → Prop} {Q1 : β → Hp → Prop}
    (h : RS R rs r S H) (hF : RF R r H F st) (hs : Sat R W rs st r H Rel' ((g F S).bind f) Q)
    (k : ∀ r1 S1 H1 a x, Ext r H r1 H1 → RS R rs r1 S1 H1 → RF R r1 H1 F st → Rel r1 H1 a x → Sat R W rs st r1 H1 Rel' (f a S1) Q → Q1 x H1) : tG R W rs Rel g st H Q1 := by
  refine ⟨r, F, S, h, hF, ?_⟩
  cases e : g F S with
  | ok a S1 =>
    rw [e] at hs
    exact fun r1 H1 x e1 h1 rx => k r1 S1 H1 a x e1 h1 (hF.ext e1) rx (Sat.shift e1 hs)
  | exc x S1 => rw [e] at hs; exact hs
  | bad => rw [e] at hs; exact hs
/-- .. with what the part gave -/
theorem bindE {α β γ δ : Type} {R : RP} {W : WX} {rs : List Nat} {st : L2.St} {r : List Addr} {H : Hp} {S : Sto} {F : Fr} {Rel : List Addr → Hp → α → β → Prop} {Rel' : List Addr → Hp → γ → δ → Prop} {g : Fr → Sto → Out α} {f : α → Sto → Out γ} {Q : δ → Hp → Prop} {Q1 : β → Hp → Prop}
    (h : RS R rs r S H) (hF : RF R r H F st) (hs : Sat R W rs st r H Rel' ((g F S).bind f) Q)
    (k : ∀ r1 S1 H1 a x, g F S = .ok a S1 → Ext r H r1 H1 → RS R rs r1 S1 H1 → RF R r1 H1 F st → Rel r1 H1 a x → Sat R W rs st r1 H1 Rel' (f a S1) Q → Q1 x H1) : tG R W rs Rel g st H Q1 := by
  refine ⟨r, F, S, h, hF, ?_⟩
  cases e : g F S with
  | ok a S1 =>
    rw [e] at hs
    exact fun r1 H1 x e1 h1 rx => k r1 S1 H1 a x e e1 h1 (hF.ext e1) rx (Sat.shift e1 hs)
  | exc x S1 => rw [e] at hs; exact hs
  | bad => rw [e] at hs; exact hs
theorem Sat.fin {α β : Type} {R : RP} {W : WX} {rs : List Nat} {st : L2.St} {r : List Addr} {H : Hp} {S : Sto} {Rel : List Addr → Hp → α → β → Prop} {a : α} {x : β} {Q : β → Hp → Prop} (hs : Sat R W rs st r H Rel (.ok a S) Q) (h : RS R rs r S H) (q : Rel r H a x) : Q x H :=
  hs r H x (.refl _ _) h q

/-- the judgements -/
def SE (R : RP) (W : WX) (rs : List Nat) (X : Cx) (e : Expr) (g : Fr → Sto → Out D) : Prop := PE X e (tG R W rs (Rep R) g)
end OM
namespace L2
open PySem PySem.Spec PyProof.Rows
theorem PE.imp {X : Cx} {e : Expr} {t t' : TE} (h : PE X e t) (k : ∀ st H Q, t' st H Q → t st H Q) : PE X e t' := ⟨fun pins s st H Q I q => h.run pins s st H Q I (k _ _ _ q)⟩
theorem PA.imp {X : Cx} {es : List Expr} {t t' : TA} (h : PA X es t) (k : ∀ st H Q, t' st H Q → t st H Q) : PA X es t' := ⟨fun pos pins s st H Q I q => h.run pos pins s st H Q I (k _ _ _ q)⟩
theorem PT.imp {X : Cx} {e : Expr} {t t' : TT} (h : PT X e t) (k : ∀ st H Q, t' st H Q → t st H Q) : PT X e t' := ⟨fun pins s st H Q I q => h.run pins s st H Q I (k _ _ _ q)⟩
theorem PS.imp {X : Cx} {e : Stmt} {t t' : TS} (h : PS X e t) (k : ∀ D st H, t' D st H → t D st H) : PS X e t' := ⟨fun pins s st H D I q => h.run pins s st H D I (k _ _ _ q)⟩
theorem PSs.imp {X : Cx} {e : List Stmt} {t t' : TS} (h : PSs X e t) (k : ∀ D st H, t' D st H → t D st H) : PSs X e t' := ⟨fun pins s st H D I q => h.run pins s st H D I (k _ _ _ q)⟩
end L2
set_option Elab.async false
set_option linter.all false
set_option maxRecDepth 100000
set_option maxHeartbeats 4000000
/-! OmTup: a tuple once. -/
namespace OM
open PySem PySem.Spec PyProof.Rows L2
open AutoSeq1 (wpAny_loadPart')
theorem tuple_once (l : Addr) (items : Array Value) (n : Nat) (dd : Option Addr) (sl : Array (Option Value)) (u : Tok) :
    Meets (Builtin.«tuple.__mul__» ⟨[.ref l, .int 1 u], []⟩) (fun _ R s => s.heap.get? l = some { cls := .type "tuple", dict := dd, data := .seq items n, slots := sl } ∧ R (.ok (.ret (.ref l))) s) :=
  .of_wp fun prog w A R s h => by
    obtain ⟨hp, g, d, tk, os⟩ := s
    obtain ⟨hl, h⟩ := h
    have f1 := AutoSeq1.idx_int
    wp_walk using wpAny_loadPart' hl
    exact ⟨_, rfl, h⟩
/-- a tuple, once: itself -/
def rOnce (K : PySem.W.Frag) : R2 := fun x y H Q => ∃ l xs, x = .ref l ∧ y = .int 1 ∧ SqT K H l xs ∧ Q (.ref l) H
theorem op_once {X : Cx} : OpR X (binaryOp .Mult) (rOnce X.K) := by
  intro pins s st H x y v u Q I rx ry h
  obtain ⟨l, xs, rfl, rfl, hT, q⟩ := h
  obtain rfl : v = Value.ref l := rx
  obtain ⟨t, rfl⟩ := ry
  obtain ⟨its, rv, ⟨ob, at_, hc, n, hd⟩, _⟩ := I.tuple hT
  obtain ⟨cls, dd, data, sl⟩ := ob
  dsimp only at hc hd
  subst hc hd
  refine wpAny_binaryOp_repeat_ref (T := "tuple") (U := "int") (by decide) ⟨_, at_, rfl⟩ (fun s' => typeIs_int s' 1 t) noFill_tuple_mul F.fills_int_mul F.slot_int_rmul repeat_tuple F.slot_int_index.lookup ?_
  refine call_meets F.slot_int_rmul (typeIs_int s 1 t) F.entry_int_rmul (F.args_int_rmul_2 _ _) (int_rmul_tuple 1 t l its.toArray n dd sl) ⟨at_, rfl, ⟨_, at_, rfl⟩, ?_⟩
  exact call_meets F.slot_tuple_mul ⟨_, at_, rfl⟩ F.entry_tuple_mul (F.args_tuple_mul_2 _ _) (tuple_once l its.toArray n dd sl t) ⟨at_, ⟨.ref l, H, I, rfl, q⟩⟩
end OM
set_option Elab.async false
set_option linter.all false
set_option maxRecDepth 100000
set_option maxHeartbeats 1000000
/-! OmVal: operators and built-ins, by values. -/
namespace OM
open PySem PySem.Spec PyProof.Rows L2

theorem line_eq : line = sizeLine := by rw [sizeLine_eq]; rfl
theorem okS_len {x : List Nat} (h : okS x = true) : x.length ≤ line := of_decide_eq_true (Bool.and_eq_true_iff.mp h).1
theorem okS_all {x : List Nat} (h : okS x = true) : ∀ c ∈ x, c < 1114112 := fun c hc => of_decide_eq_true (List.all_eq_true.mp (Bool.and_eq_true_iff.mp h).2 c hc)
theorem okS_mk {x : List Nat} (h1 : x.length ≤ line) (h2 : ∀ c ∈ x, c < 1114112) : okS x = true := Bool.and_eq_true_iff.mpr ⟨decide_eq_true h1, List.all_eq_true.mpr fun c hc => decide_eq_true (h2 c hc)⟩
theorem okS_append {x y : List Nat} (h : okS x = true) (g : okS y = true) (l : x.length + y.length ≤ line) : okS (x ++ y) = true :=
  okS_mk (by rw [List.length_append]; exact l) fun c hc => (List.mem_append.mp hc).elim (okS_all h c) (okS_all g c)
theorem okS_sub {x y : List Nat} (h : okS x = true) (s : y.Sublist x) : okS y = true := okS_mk (Nat.le_trans s.length_le (okS_len h)) fun c hc => okS_all h c (s.subset hc)
theorem okIf_t {c : Bool} {d : D} {S : Sto} (h : c = true) : okIf c d S = .ok d S := by unfold okIf; rw [if_pos h]
theorem okIf_sat {R : RP} {W : WX} {rs : List Nat} {st : L2.St} {r : List Addr} {H : Hp} {Rel : List Addr → Hp → D → V → Prop} {c : Bool} {d : D} {S : Sto} {Q : VK} (h : Sat R W rs st r H Rel (okIf c d S) Q) : c = true ∧ Sat R W rs st r H Rel (.ok d S) Q := by
  unfold okIf at h
  cases c with
  | true => exact ⟨rfl, h⟩
  | false => exact h.elim
theorem bad_sat {α β : Type} {R : RP} {W : WX} {rs : List Nat} {st : L2.St} {r : List Addr} {H : Hp} {Rel : List Addr → Hp → α → β → Prop} {Q : β → Hp → Prop} (h : Sat R W rs st r H Rel .bad Q) : False := h

section
variable {R : RP} {W : WX} {rs : List Nat} {st : L2.St} {r : List Addr} {S : Sto} {H : Hp} {Q : VK}
/-- a new list, a new tuple that stand -/
theorem Sat.newL {ds : List D} {vs : List V} (hs : Sat R W rs st r H (Rep R) (.ok (.lst ds) S) Q) (h : RS R rs r S H) (q : Reps R r H ds vs) : ∀ p, H p = none → Q (.ref p) (upd H p (.lst vs)) := fun p n =>
  hs r _ _ (.fresh n) (h.fresh n) (.lst upd_same (h.fre n) (q.ext (.fresh n)))
theorem Sat.newT {ds : List D} {vs : List V} (hs : Sat R W rs st r H (Rep R) (.ok (.tup ds) S) Q) (h : RS R rs r S H) (q : Reps R r H ds vs) : ∀ p, H p = none → Q (.ref p) (upd H p (.tup vs)) := fun p n =>
  hs r _ _ (.fresh n) (h.fresh n) (.tup (.inl ⟨.inl upd_same, h.fre n⟩) (q.ext (.fresh n)))
/-- a new list, a cell or not -/
theorem Sat.mkL {mu : Bool} {ds : List D} {vs : List V} (hs : Sat R W rs st r H (Rep R) (mkList mu ds S) Q) (h : RS R rs r S H) (q : Reps R r H ds vs) : vs.length ≤ sizeLine ∧ ∀ p, H p = none → Q (.ref p) (upd H p (.lst vs)) := by
  unfold mkList at hs
  by_cases hl : ds.length ≤ line
  · rw [if_pos hl] at hs
    refine ⟨by rw [← q.length, ← line_eq]; exact hl, ?_⟩
    cases mu with
    | false => exact hs.newL h q
    | true =>
      intro p n
      have hs : Sat R W rs st r H (Rep R) (.ok (.ref S.length) (S ++ [.lst ds])) Q := hs
      refine hs (r ++ [p]) _ _ (.push n) (h.push n (.lst (q.ext (.push n)))) (.ref ?_)
      rw [← h.len, List.getElem?_append_right (Nat.le_refl _), Nat.sub_self]
      rfl
  · rw [if_neg hl] at hs
    exact hs.elim

/-! ### what a value is -/
theorem seq_of (h : RS R rs r S H) {d : D} {v : V} {xs : List D} (q : Rep R r H d v) (e : seqOf S d = some xs) : ∃ a vs, v = .ref a ∧ (SqL R.K H a vs ∨ SqT R.K H a vs) ∧ Reps R r H xs vs := by
  cases q with
  | tup f g => cases e; exact ⟨_, _, rfl, .inr f.sq, g⟩
  | lst f n g => cases e; exact ⟨_, _, rfl, .inl (.of f), g⟩
  | @ref n a z =>
    obtain ⟨c, o, e1, e2, e3⟩ := h.at z
    simp only [seqOf, e1] at e
    cases e3 with
    | lst g => cases e; exact ⟨_, _, rfl, .inl (.of e2), g⟩
    | obj _ _ => cases e
  | _ => cases e
theorem lst_of (h : RS R rs r S H) {d : D} {v : V} {xs : List D} (q : Rep R r H d v) (e : lstOf S d = some xs) : ∃ a vs, v = .ref a ∧ H a = some (.lst vs) ∧ Reps R r H xs vs := by
  cases q with
  | lst f n g => cases e; exact ⟨_, _, rfl, f, g⟩
  | @ref n a z =>
    obtain ⟨c, o, e1, e2, e3⟩ := h.at z
    simp only [lstOf, e1] at e
    cases e3 with
    | lst g => cases e; exact ⟨_, _, rfl, e2, g⟩
    | obj _ _ => cases e
  | _ => cases e

theorem truth_of (h : RS R rs r S H) {d : D} {v : V} {b : Bool} (q : Rep R r H d v) (e : truth S d = some b) : TruV R.K v H b := by
  cases q with
  | non => cases e; rfl
  | bl b => cases e; rfl
  | int i => cases e; rfl
  | @str x hx =>
    cases e
    refine ⟨by rw [← line_eq]; exact okS_len hx, ?_⟩
    show (!x.isEmpty) = ((((x.toArray.size : Nat) : Int)) != 0)
    cases x with
    | nil => rfl
    | cons a t => simp; omega
  | tup f g =>
    cases e
    refine .inr (.inl ⟨_, f.sq, ?_⟩)
    have := g.length
    rename_i ds vs
    cases ds <;> cases vs <;> first | rfl | simp at this
  | lst f n g =>
    cases e
    refine .inl ⟨_, .of f, ?_⟩
    have := g.length
    rename_i ds vs
    cases ds <;> cases vs <;> first | rfl | simp at this
  | @ref n a z =>
    obtain ⟨c, o, e1, e2, e3⟩ := h.at z
    simp only [truth, e1] at e
    cases e3 with
    | lst g =>
      cases e
      refine .inl ⟨_, .of e2, ?_⟩
      have := g.length
      rename_i ds vs
      cases ds <;> cases vs <;> first | rfl | simp at this
    | obj _ _ => cases e
  | _ => cases e
end

/-! ### operators -/
def VR2 (R : RP) (rel : R2) (f : D → D → Sto → Out D) : Prop :=
  ∀ {W : WX} {rs : List Nat} {st : L2.St} {r : List Addr} {S : Sto} {H : Hp} {x y : D} {xv yv : V} {Q : VK}, RS R rs r S H → Rep R r H x xv → Rep R r H y yv → Sat R W rs st r H (Rep R) (f x y S) Q → rel xv yv H Q

theorem mkS_append (a b : List Nat) : mkS (a ++ b) = mkS a ++ mkS b := by
  show (⟨(a ++ b).toArray⟩ : Str) = ⟨a.toArray ++ b.toArray⟩
  simp
theorem mkS_len (a : List Nat) : (mkS a).length = a.length := by
  show a.toArray.size = a.length
  simp

def rAddI : R2 := rI0 fun i j => .int (i + j)
def rAddS : R2 := fun x y H Q => ∃ i j, x = .str i ∧ y = .str j ∧ i.length + j.length ≤ sizeLine ∧ Q (.str (i ++ j)) H
def rAddU (K : PySem.W.Frag) : R2 := fun x y H Q => (rAddI x y H Q ∨ rAddS x y H Q) ∨ (rCat x y H Q ∨ rCatA K x y H Q)
theorem add_r {X : Cx} : OpR X (binaryOp .Add) (rAddU X.K) := (op_add.or op_add_str).or (op_cat.or op_catA)
theorem add_v {R : RP} : VR2 R (rAddU R.K) vAdd := by
  intro W rs st r S H x y xv yv Q h qx qy hs
  unfold vAdd at hs
  split at hs
  · cases qx
    split at hs
    · cases qy
      exact .inl (.inl ⟨_, _, rfl, rfl, hs.fin h (.int _)⟩)
    · exact hs.elim
  · cases qx with
    | str hx =>
      split at hs
      · cases qy with
        | str hy =>
          obtain ⟨hl, hs⟩ := okIf_sat hs
          have hl := of_decide_eq_true hl
          refine .inl (.inr ⟨_, _, rfl, rfl, by rw [mkS_len, mkS_len, ← line_eq]; exact hl, ?_⟩)
          rw [← mkS_append]
          exact hs.fin h (.str (okS_append hx hy hl))
      · exact hs.elim
  · cases qx with
    | tup f g =>
      split at hs
      · cases qy with
        | tup f2 g2 =>
          obtain ⟨hl, hs⟩ := okIf_sat hs
          have hl := of_decide_eq_true hl
          refine .inr (.inr ⟨_, _, _, _, rfl, rfl, f.sq, f2.sq, by rw [← g.length, ← g2.length, ← line_eq]; exact hl, fun e => ?_, fun e1 e2 => ?_, fun e1 e2 => ?_⟩)
          · subst e
            cases g
            exact hs.fin h (.tup f2 g2)
          · subst e2
            cases g2
            rw [List.append_nil] at hs
            exact hs.fin h (.tup f g)
          · exact hs.newT h (g.append g2)
      · exact hs.elim
  · split at hs
    · rename_i e1 e2
      obtain ⟨a, vs, rfl, ha, ga⟩ := lst_of h qx e1
      obtain ⟨b, us, rfl, hb, gb⟩ := lst_of h qy e2
      obtain ⟨hl, hs⟩ := okIf_sat hs
      have hl := of_decide_eq_true hl
      exact .inr (.inl ⟨_, _, _, _, rfl, rfl, ha, hb, by rw [← ga.length, ← gb.length, ← line_eq]; exact hl, hs.newL h (ga.append gb)⟩)
    · exact hs.elim

def rMulI : R2 := rI CMul fun i j => .int (i * j)
def rMulU (K : PySem.W.Frag) : R2 := fun x y H Q => (rMulI x y H Q ∨ rRep x y H Q) ∨ (rOnce K x y H Q ∨ rRepT K x y H Q)
theorem mul_r {X : Cx} : OpR X (binaryOp .Mult) (rMulU X.K) := (op_mul.or op_rep).or (op_once.or op_repT)
theorem Reps.flat {R : RP} {r : List Addr} {H : Hp} {ds : List D} {vs : List V} (g : Reps R r H ds vs) : ∀ n : Nat, Reps R r H (List.replicate n ds).flatten (List.replicate n vs).flatten
  | 0 => .nil
  | n + 1 => by
    rw [List.replicate_succ, List.replicate_succ, List.flatten_cons, List.flatten_cons]
    exact g.append (Reps.flat g n)
theorem mul_v {R : RP} : VR2 R (rMulU R.K) vMul := by
  intro W rs st r S H x y xv yv Q h qx qy hs
  unfold vMul at hs
  split at hs
  · cases qy
    split at hs
    · cases qx
      obtain ⟨hl, hs⟩ := okIf_sat hs
      refine .inl (.inl ⟨_, _, rfl, rfl, ?_, hs.fin h (.int _)⟩)
      unfold mulFits at hl
      simp only [Bool.or_eq_true, Bool.and_eq_true, decide_eq_true_eq] at hl
      exact hl
    · cases qx with
      | tup f g =>
        split at hs
        · rename_i e
          subst e
          exact .inr (.inl ⟨_, _, rfl, rfl, f.sq, hs.fin h (.tup f g)⟩)
        · obtain ⟨hl, hs⟩ := okIf_sat hs
          simp only [Bool.and_eq_true, Bool.not_eq_true', decide_eq_true_eq] at hl
          refine .inr (.inr ⟨_, _, _, rfl, rfl, f.sq, fun z => ?_, hl.1.1.2, hl.1.2, by rw [← g.length]; exact hl.2, hs.newT h (g.flat _)⟩)
          subst z
          cases g
          exact absurd hl.1.1.1 (by decide)
    · split at hs
      · rename_i e
        obtain ⟨a, vs, rfl, ha, ga⟩ := lst_of h qx e
        obtain ⟨hl, hs⟩ := okIf_sat hs
        simp only [Bool.and_eq_true, decide_eq_true_eq] at hl
        exact .inl (.inr ⟨_, _, _, rfl, rfl, ha, by omega, by omega, by rw [← ga.length, ← line_eq]; exact hl.2, hs.newL h (ga.flat _)⟩)
      · exact hs.elim
  · exact hs.elim

/-- the operators -/
def opOf : BinO → Operator
  | .add => .Add
  | .sub => .Sub
  | .mul => .Mult
  | .fdiv => .FloorDiv
  | .mod => .Mod
  | .pow => .Pow
def rBin (K : PySem.W.Frag) : BinO → R2
  | .add => rAddU K
  | .mul => rMulU K
  | .sub => rI0 fun i j => .int (i - j)
  | .fdiv => rI CDivW fun i j => .int (i / j)
  | .mod => rI (fun _ j => 0 < j) fun i j => .int (i % j)
  | .pow => rI CPow fun i j => .int (i ^ j.toNat)
theorem bin_r {X : Cx} : ∀ o : BinO, OpR X (binaryOp (opOf o)) (rBin X.K o)
  | .add => add_r
  | .mul => mul_r
  | .sub => op_sub
  | .fdiv => op_fdivW
  | .mod => op_mod
  | .pow => op_pow
theorem bin_v {R : RP} (o : BinO) : VR2 R (rBin R.K o) (vBin o) := by
  cases o with
  | add => exact add_v
  | mul => exact mul_v
  | sub =>
    intro W rs st r S H x y xv yv Q h qx qy hs
    unfold vBin at hs
    dsimp only at hs
    split at hs
    · cases qx; cases qy
      exact ⟨_, _, rfl, rfl, hs.fin h (.int _)⟩
    · exact hs.elim
  | fdiv =>
    intro W rs st r S H x y xv yv Q h qx qy hs
    unfold vBin at hs
    dsimp only at hs
    split at hs
    · cases qx; cases qy
      obtain ⟨hl, hs⟩ := okIf_sat hs
      simp only [Bool.and_eq_true, decide_eq_true_eq] at hl
      exact ⟨_, _, rfl, rfl, wide_div (b := 133) hl.1 (by show _ < 10889035741470030830827987437816582766592; omega) (by decide) (by decide), hs.fin h (.int _)⟩
    · exact hs.elim
  | mod =>
    intro W rs st r S H x y xv yv Q h qx qy hs
    unfold vBin at hs
    dsimp only at hs
    split at hs
    · cases qx; cases qy
      obtain ⟨hl, hs⟩ := okIf_sat hs
      exact ⟨_, _, rfl, rfl, of_decide_eq_true hl, hs.fin h (.int _)⟩
    · exact hs.elim
  | pow =>
    intro W rs st r S H x y xv yv Q h qx qy hs
    unfold vBin at hs
    dsimp only at hs
    split at hs
    · cases qx; cases qy
      obtain ⟨hl, hs⟩ := okIf_sat hs
      simp only [Bool.and_eq_true, decide_eq_true_eq] at hl
      exact ⟨_, _, rfl, rfl, ⟨hl.1.1, hl.1.2, hl.2⟩, hs.fin h (.int _)⟩
    · exact hs.elim
end OM
set_option Elab.async false
set_option linter.all false
set_option maxRecDepth 100000
set_option maxHeartbeats 1000000
/-! OmVal2: comparisons, subscripts, built-in functions and methods, by values. -/
namespace OM
open PySem PySem.Spec PyProof.Rows L2

/-! ### order of texts -/
theorem lexLt_iff : ∀ a b : List Nat, lexLt a b = decide (a < b)
  | [], [] => by simp [lexLt]
  | [], _ :: _ => by simp [lexLt]
  | _ :: _, [] => by simp [lexLt]
  | a :: r, b :: t => by
    unfold lexLt
    rw [lexLt_iff r t]
    by_cases h : a < b
    · rw [if_pos h]
      exact (decide_eq_true (List.cons_lt_cons_iff.mpr (.inl h))).symm
    · rw [if_neg h]
      by_cases h2 : b < a
      · rw [if_pos h2]
        refine (decide_eq_false fun z => ?_).symm
        rcases List.cons_lt_cons_iff.mp z with q | ⟨q, _⟩
        · exact h q
        · omega
      · rw [if_neg h2]
        have e : a = b := by omega
        subst e
        rw [Bool.eq_iff_iff, decide_eq_true_iff, decide_eq_true_iff]
        constructor
        · exact fun z => List.cons_lt_cons_iff.mpr (.inr ⟨rfl, z⟩)
        · intro z
          rcases List.cons_lt_cons_iff.mp z with q | ⟨_, q⟩
          · exact absurd q h
          · exact q

/-! ### a text within a text -/
theorem isInfixB_iff (a : List Nat) : ∀ b : List Nat, isInfixB a b = true ↔ ∃ i, i + a.length ≤ b.length ∧ (b.drop i).take a.length = a
  | [] => by
    unfold isInfixB
    constructor
    · intro h
      have : a = [] := List.isEmpty_iff.mp h
      subst this
      exact ⟨0, Nat.le_refl _, rfl⟩
    · rintro ⟨i, h, _⟩
      have : a.length = 0 := by
        rw [List.length_nil] at h
        omega
      exact List.isEmpty_iff.mpr (List.length_eq_zero_iff.mp this)
  | c :: r => by
    unfold isInfixB
    rw [Bool.or_eq_true, isInfixB_iff a r]
    constructor
    · rintro (h | ⟨i, h, e⟩)
      · have h := List.isPrefixOf_iff_prefix.mp h
        refine ⟨0, by simpa using h.length_le, ?_⟩
        rw [List.drop_zero]
        exact (List.prefix_iff_eq_take.mp h).symm
      · exact ⟨i + 1, by rw [List.length_cons]; omega, by rw [List.drop_succ_cons]; exact e⟩
    · rintro ⟨i, h, e⟩
      cases i with
      | zero =>
        left
        rw [List.drop_zero] at e
        exact List.isPrefixOf_iff_prefix.mpr (List.prefix_iff_eq_take.mpr e.symm)
      | succ i =>
        right
        exact ⟨i, by rw [List.length_cons] at h; omega, by rw [List.drop_succ_cons] at e; exact e⟩
theorem infix_occ (a b : List Nat) : (!(Builtin.Str.occurrences (mkS b) (mkS a) 0 (mkS b).length 1).isEmpty) = isInfixB a b := by
  rw [Bool.eq_iff_iff, PySem.StrLaws.found_iff, isInfixB_iff]
  constructor
  · rintro ⟨i, h, e⟩
    rw [PySem.StrLaws.subAt_eq, mkS_len] at e
    rw [mkS_len, mkS_len] at h
    exact ⟨i, h, by simpa [mkS] using eq_of_beq e⟩
  · rintro ⟨i, h, e⟩
    refine ⟨i, by rw [mkS_len, mkS_len]; exact h, ?_⟩
    rw [PySem.StrLaws.subAt_eq, mkS_len]
    simp [mkS, e]

/-! ### plain data -/
mutual
def toP : D → PyData
  | .non => .none
  | .bl b => .bool b
  | .int i => .int i
  | .str x => .str (mkS x)
  | .tup xs => .tuple (toPs xs)
  | .lst xs => .list (toPs xs)
  | _ => .none
def toPs : List D → List PyData
  | [] => []
  | d :: ds => toP d :: toPs ds
end
section
variable {R : RP} {r : List Addr} {H : Hp}
mutual
theorem Rep.dp : ∀ {d : D} {v : V}, Rep R r H d v → d.plain = true → Dp R.K H v (toP d)
  | _, _, .non, _ => .non
  | _, _, .bl b, _ => .bl b
  | _, _, .int i, _ => .int i
  | _, _, .str h, _ => .str _
  | _, _, .tup f g, p => by unfold toP; exact .tup f.sq (Reps.dp g (by unfold D.plain at p; exact p))
  | _, _, .lst f n g, p => by unfold toP; exact .lst (.of f) (Reps.dp g (by unfold D.plain at p; exact p))
  | _, _, .obj _ _ _ _, p => by unfold D.plain at p; cases p
  | _, _, .ref _, p => by unfold D.plain at p; cases p
  | _, _, .fn _, p => by unfold D.plain at p; cases p
  | _, _, .cls _, p => by unfold D.plain at p; cases p
  | _, _, .ty _, p => by unfold D.plain at p; cases p
  | _, _, .frz _, p => by unfold D.plain at p; cases p
theorem Reps.dp : ∀ {ds : List D} {vs : List V}, Reps R r H ds vs → plainL ds = true → DpAll R.K H vs (toPs ds)
  | _, _, .nil, _ => .nil
  | _, _, .cons h t, p => by
    unfold plainL at p
    rw [Bool.and_eq_true] at p
    unfold toPs
    exact .cons (h.dp p.1) (Reps.dp t p.2)
end
mutual
theorem Rep.lay : ∀ {d : D} {v : V}, Rep R r H d v → d.plain = true → (toP d).canLay0 = true
  | _, _, .non, _ => rfl
  | _, _, .bl b, _ => rfl
  | _, _, .int i, _ => rfl
  | _, _, .str (x := x) h, _ => by
    show PySem.PyData.strOk (mkS x) = true
    unfold PySem.PyData.strOk
    show Array.all x.toArray _ = true
    rw [← Array.all_toList]
    exact List.all_eq_true.mpr fun c hc => decide_eq_true (okS_all h c (by simpa using hc))
  | _, _, .tup f g, p => by unfold toP PyData.canLay0; exact Reps.lay g (by unfold D.plain at p; exact p)
  | _, _, .lst f n g, p => by unfold toP PyData.canLay0; exact Reps.lay g (by unfold D.plain at p; exact p)
  | _, _, .obj _ _ _ _, p => by unfold D.plain at p; cases p
  | _, _, .ref _, p => by unfold D.plain at p; cases p
  | _, _, .fn _, p => by unfold D.plain at p; cases p
  | _, _, .cls _, p => by unfold D.plain at p; cases p
  | _, _, .ty _, p => by unfold D.plain at p; cases p
  | _, _, .frz _, p => by unfold D.plain at p; cases p
theorem Reps.lay : ∀ {ds : List D} {vs : List V}, Reps R r H ds vs → plainL ds = true → PyData.canLayAll0 (toPs ds) = true
  | _, _, .nil, _ => rfl
  | _, _, .cons h t, p => by
    unfold plainL at p
    rw [Bool.and_eq_true] at p
    unfold toPs PyData.canLayAll0
    rw [h.lay p.1, Reps.lay t p.2]
    rfl
end
end
mutual
theorem dep_eq : ∀ d : D, d.plain = true → (toP d).depth = d.dep
  | .non, _ => rfl
  | .bl b, _ => rfl
  | .int i, _ => rfl
  | .str x, _ => rfl
  | .tup xs, p => by unfold toP PyData.depth D.dep; rw [depL_eq xs (by unfold D.plain at p; exact p)]
  | .lst xs, p => by unfold toP PyData.depth D.dep; rw [depL_eq xs (by unfold D.plain at p; exact p)]
  | .dct _ _, p => by unfold D.plain at p; cases p
  | .obj _ _ _, p => by unfold D.plain at p; cases p
  | .exc _ _ _, p => by unfold D.plain at p; cases p
  | .ref _, p => by unfold D.plain at p; cases p
  | .fn _, p => by unfold D.plain at p; cases p
  | .cls _, p => by unfold D.plain at p; cases p
  | .ty _, p => by unfold D.plain at p; cases p
  | .frz _, p => by unfold D.plain at p; cases p
theorem depL_eq : ∀ ds : List D, plainL ds = true → PyData.depthAll (toPs ds) = depL ds
  | [], _ => rfl
  | d :: ds, p => by
    unfold plainL at p
    rw [Bool.and_eq_true] at p
    unfold toPs PyData.depthAll depL
    rw [dep_eq d p.1, depL_eq ds p.2]
end
theorem mkS_inj {x y : List Nat} : (mkS x == mkS y) = (x == y) := by
  rw [Bool.eq_iff_iff, beq_iff_eq, beq_iff_eq]
  constructor
  · intro h
    have := congrArg (fun z : Str => z.cps.toList) h
    simpa [mkS] using this
  · rintro rfl; rfl
mutual
theorem eqv_eq : ∀ d e : D, d.plain = true → e.plain = true → PyData.eqv (toP d) (toP e) = D.eqv d e := by
  intro d e hd he
  cases d <;> (try (unfold D.plain at hd; cases hd; done)) <;> cases e <;> (try (unfold D.plain at he; cases he; done)) <;> unfold toP PyData.eqv D.eqv <;> first
    | rfl
    | exact mkS_inj
    | (rename_i xs ys; exact eqvL_eq xs ys (by unfold D.plain at hd; exact hd) (by unfold D.plain at he; exact he))
theorem eqvL_eq : ∀ ds es : List D, plainL ds = true → plainL es = true → PyData.eqvAll (toPs ds) (toPs es) = eqvL ds es
  | [], [], _, _ => rfl
  | [], _ :: _, _, _ => rfl
  | _ :: _, [], _, _ => rfl
  | d :: ds, e :: es, hd, he => by
    unfold plainL at hd he
    rw [Bool.and_eq_true] at hd he
    unfold toPs PyData.eqvAll eqvL
    rw [eqv_eq d e hd.1 he.1, eqvL_eq ds es hd.2 he.2]
end

/-! ### comparisons -/
section
variable {R : RP} {W : WX} {rs : List Nat} {st : L2.St} {r : List Addr} {S : Sto} {H : Hp} {Q : VK}
theorem dat_of (h : RS R rs r S H) {d e : D} {v : V} (q : Rep R r H d v) (x : datOf S d = some e) : Dp R.K H v (toP e) ∧ SeqAt.shaped (toP e) = true ∧ e.plain = true := by
  unfold datOf at x
  by_cases p : d.plain = true
  · rw [if_pos p] at x
    by_cases l : d.dep ≤ 64
    · rw [if_pos l] at x
      cases x
      exact ⟨q.dp p, Bool.and_eq_true_iff.mpr ⟨q.lay p, decide_eq_true (by rw [dep_eq _ p]; exact l)⟩, p⟩
    · rw [if_neg l] at x; cases x
  · rw [if_neg p] at x
    cases q with
    | @ref n a z =>
      obtain ⟨c, o, e1, e2, e3⟩ := h.at z
      simp only [e1] at x
      cases e3 with
      | lst g =>
        rename_i ds vs
        simp only [Bool.and_eq_true, decide_eq_true_eq] at x
        by_cases l : plainL ds = true ∧ depL ds ≤ 63
        · rw [if_pos l] at x
          cases x
          refine ⟨?_, Bool.and_eq_true_iff.mpr ⟨?_, decide_eq_true ?_⟩, ?_⟩
          · unfold toP; exact .lst (.of e2) (g.dp l.1)
          · unfold toP PyData.canLay0; exact g.lay l.1
          · unfold toP PyData.depth
            rw [depL_eq _ l.1]
            omega
          · unfold D.plain; exact l.1
        · rw [if_neg l] at x; cases x
      | obj _ _ => cases x
    | _ => cases x
theorem isNon_iff {d : D} {v : V} (q : Rep R r H d v) : isNon d = decide (v = .non) := by
  cases q <;> simp [isNon]
end
def cmpOf : CmpO → CmpOp
  | .eq => .Eq
  | .ne => .NotEq
  | .lt => .Lt
  | .le => .LtE
  | .gt => .Gt
  | .ge => .GtE
  | .is => .Is
  | .isn => .IsNot
  | .inn => .In
  | .nin => .NotIn
def rLtS : R2 := fun x y H Q => ∃ i j, x = .str i ∧ y = .str j ∧ Q (.bl (decide (i.cps.toList < j.cps.toList))) H
def rInS : R2 := fun x y H Q => ∃ i j, x = .str i ∧ y = .str j ∧ Q (.bl (!(Builtin.Str.occurrences j i 0 j.length 1).isEmpty)) H
def rNinS : R2 := fun x y H Q => ∃ i j, x = .str i ∧ y = .str j ∧ Q (.bl (!(!(Builtin.Str.occurrences j i 0 j.length 1).isEmpty))) H
def rCmp (K : PySem.W.Frag) : CmpO → R2
  | .eq => rEqD K
  | .ne => rNeD K
  | .lt => fun x y H Q => rI0 (fun i j => .bl (decide (i < j))) x y H Q ∨ rLtS x y H Q
  | .le => rI0 fun i j => .bl (decide (i ≤ j))
  | .gt => rI0 fun i j => .bl (decide (j < i))
  | .ge => rI0 fun i j => .bl (decide (j ≤ i))
  | .is => fun x y H Q => y = .non ∧ Q (.bl (decide (x = .non))) H
  | .isn => fun x y H Q => y = .non ∧ Q (.bl (!decide (x = .non))) H
  | .inn => fun x y H Q => rInS x y H Q ∨ rIn K false x y H Q
  | .nin => fun x y H Q => rNinS x y H Q ∨ rIn K true x y H Q
theorem cmp_r {X : Cx} (hu : X.A.units + 64 < cLine) : ∀ o : CmpO, OpR X (compareOp (cmpOf o)) (rCmp X.K o)
  | .eq => op_eqD hu
  | .ne => op_neD hu
  | .lt => op_lt.or op_lt_str
  | .le => op_le
  | .gt => op_gt
  | .ge => op_ge
  | .is => op_isN
  | .isn => op_notN
  | .inn => op_in_str.or op_in_seq
  | .nin => op_notin_str.or op_notIn_seq
section
variable {R : RP} {r : List Addr} {H : Hp}
theorem flat_v {d : D} {v : V} (q : Rep R r H d v) (f : d.flat = true) : flatV v = true := by
  cases q <;> first | rfl | cases f
theorem flatL_v : ∀ {ds : List D} {vs : List V}, Reps R r H ds vs → flatL ds = true → vs.all flatV = true
  | _, _, .nil, _ => rfl
  | _, _, .cons h t, p => by
    unfold flatL at p
    rw [Bool.and_eq_true] at p
    rw [List.all_cons, flat_v h p.1, flatL_v t p.2]
    rfl
theorem eqv_v {d e : D} {v u : V} (q : Rep R r H d v) (z : Rep R r H e u) (f : d.flat = true) (g : e.flat = true) : eqV v u = D.eqv d e := by
  cases q <;> (try (cases f; done)) <;> cases z <;> (try (cases g; done)) <;> unfold D.eqv eqV <;> first | rfl | exact mkS_inj
theorem mem_v {d : D} {v : V} (q : Rep R r H d v) (f : d.flat = true) : ∀ {ds : List D} {vs : List V}, Reps R r H ds vs → flatL ds = true → inV v vs = memD d ds
  | _, _, .nil, _ => rfl
  | _, _, .cons h t, p => by
    unfold flatL at p
    rw [Bool.and_eq_true] at p
    have ih := mem_v q f t p.2
    unfold inV at ih ⊢
    rw [List.any_cons, ih, eqv_v h q p.1 f]
    rfl
end
theorem in_v {R : RP} {W : WX} {rs : List Nat} {st : L2.St} {r : List Addr} {S : Sto} {H : Hp} {x y : D} {xv yv : V} {b : Bool} (h : RS R rs r S H) (qx : Rep R r H x xv) (qy : Rep R r H y yv) (e : vIn x y S = some b) :
    (∃ i j, xv = .str i ∧ yv = .str j ∧ (!(Builtin.Str.occurrences j i 0 j.length 1).isEmpty) = b) ∨ ∃ p xs, yv = .ref p ∧ (SqL R.K H p xs ∨ SqT R.K H p xs) ∧ flatV xv = true ∧ xs.all flatV = true ∧ inV xv xs = b := by
  unfold vIn at e
  split at e
  · split at e
    · cases qy; cases qx
      cases e
      exact .inl ⟨_, _, rfl, rfl, infix_occ _ _⟩
    · cases e
  · split at e
    · rename_i e1
      obtain ⟨a, vs, rfl, hv, g⟩ := seq_of h qy e1
      split at e
      · rename_i f
        rw [Bool.and_eq_true] at f
        cases e
        exact .inr ⟨_, _, rfl, hv, flat_v qx f.1, flatL_v g f.2, mem_v qx f.1 g f.2⟩
      · cases e
    · cases e
theorem cmp_v {R : RP} (o : CmpO) : VR2 R (rCmp R.K o) (vCmp o) := by
  intro W rs st r S H x y xv yv Q h qx qy hs
  cases o <;> unfold vCmp at hs <;> dsimp only at hs
  case eq =>
    split at hs
    · rename_i b e
      unfold vEq at e
      split at e
      · rename_i d f e1 e2
        cases e
        obtain ⟨a1, a2, a3⟩ := dat_of h qx e1
        obtain ⟨b1, b2, b3⟩ := dat_of h qy e2
        exact ⟨_, _, a1, b1, a2, b2, by rw [eqv_eq _ _ a3 b3]; exact hs.fin h (.bl _)⟩
      · cases e
    · exact hs.elim
  case ne =>
    split at hs
    · rename_i b e
      unfold vEq at e
      split at e
      · rename_i d f e1 e2
        cases e
        obtain ⟨a1, a2, a3⟩ := dat_of h qx e1
        obtain ⟨b1, b2, b3⟩ := dat_of h qy e2
        exact ⟨_, _, a1, b1, a2, b2, by rw [eqv_eq _ _ a3 b3]; exact hs.fin h (.bl _)⟩
      · cases e
    · exact hs.elim
  case lt =>
    split at hs
    · cases qx; cases qy
      exact .inl ⟨_, _, rfl, rfl, hs.fin h (.bl _)⟩
    · rename_i a b
      cases qx
      cases qy
      refine .inr ⟨_, _, rfl, rfl, ?_⟩
      have e : decide ((mkS a).cps.toList < (mkS b).cps.toList) = lexLt a b := by
        rw [Bool.eq_iff_iff, decide_eq_true_iff, lexLt_iff, decide_eq_true_iff]
        simp [mkS]
      rw [e]
      exact hs.fin h (.bl _)
    · exact hs.elim
  case le =>
    split at hs
    · cases qx; cases qy
      exact ⟨_, _, rfl, rfl, hs.fin h (.bl _)⟩
    · exact hs.elim
  case gt =>
    split at hs
    · cases qx; cases qy
      exact ⟨_, _, rfl, rfl, hs.fin h (.bl _)⟩
    · exact hs.elim
  case ge =>
    split at hs
    · cases qx; cases qy
      exact ⟨_, _, rfl, rfl, hs.fin h (.bl _)⟩
    · exact hs.elim
  case is =>
    split at hs
    · rename_i e
      rw [isNon_iff qy] at e
      refine ⟨of_decide_eq_true e, ?_⟩
      rw [← isNon_iff qx]
      exact hs.fin h (.bl _)
    · exact hs.elim
  case isn =>
    split at hs
    · rename_i e
      rw [isNon_iff qy] at e
      refine ⟨of_decide_eq_true e, ?_⟩
      rw [← isNon_iff qx]
      exact hs.fin h (.bl _)
    · exact hs.elim
  case inn =>
    split at hs
    · rename_i b e
      rcases in_v (W := W) (st := st) h qx qy e with ⟨i, j, rfl, rfl, e⟩ | ⟨p, xs, rfl, h1, h2, h3, e⟩
      · exact .inl ⟨_, _, rfl, rfl, by rw [e]; exact hs.fin h (.bl _)⟩
      · exact .inr ⟨_, _, rfl, h1, h2, h3, by rw [if_neg (by decide), e]; exact hs.fin h (.bl _)⟩
    · exact hs.elim
  case nin =>
    split at hs
    · rename_i b e
      rcases in_v (W := W) (st := st) h qx qy e with ⟨i, j, rfl, rfl, e⟩ | ⟨p, xs, rfl, h1, h2, h3, e⟩
      · exact .inl ⟨_, _, rfl, rfl, by rw [e]; exact hs.fin h (.bl _)⟩
      · exact .inr ⟨_, _, rfl, h1, h2, h3, by rw [if_pos rfl, e]; exact hs.fin h (.bl _)⟩
    · exact hs.elim

/-! ### subscripts -/
theorem place_ix {i : Int} {n k : Nat} (h : place i n = some k) : ixN n i = some k := by
  unfold place at h
  unfold ixN
  by_cases h0 : 0 ≤ i
  · rw [if_pos h0] at h ⊢
    by_cases h1 : i.toNat < n
    · rw [if_pos h1] at h
      rw [if_pos (by omega)]
      exact h
    · rw [if_neg h1] at h; cases h
  · rw [if_neg h0] at h ⊢
    by_cases h1 : 0 ≤ i + n
    · rw [if_pos h1] at h
      rw [if_pos (by omega)]
      exact h
    · rw [if_neg h1] at h; cases h
def rIxU (K : PySem.W.Frag) : R2 := fun x y H Q => (rIxL K x y H Q ∨ rIxT K x y H Q) ∨ rIxS x y H Q
theorem ix_r {X : Cx} : IxR X (rIxU X.K) := (ix_list.or ix_tup).or ix_str
theorem ix_v {R : RP} : VR2 R (rIxU R.K) vIdx := by
  intro W rs st r S H x y xv yv Q h qx qy hs
  unfold vIdx at hs
  split at hs
  · rename_i a i
    cases qy
    cases qx with
    | str hx =>
      split at hs
      · rename_i k e
        split at hs
        · rename_i c e2
          refine .inr ⟨_, _, c, rfl, rfl, by rw [mkS_len, ← line_eq]; exact okS_len hx, ?_, ?_⟩
          · unfold atI
            rw [show (mkS a).cps.toList.length = a.length by simp [mkS], place_ix e]
            simpa [mkS] using e2
          · exact hs.fin h (.str (okS_mk (by show 1 ≤ line; unfold line; omega) fun c' hc => by
              rw [List.mem_singleton] at hc
              subst hc
              exact okS_all hx _ (List.mem_of_getElem? e2)))
        · exact hs.elim
      · exact hs.elim
  · cases qy
    split at hs
    · rename_i xs e1
      obtain ⟨a, vs, rfl, hv, g⟩ := seq_of h qx e1
      split at hs
      · rename_i k e
        split at hs
        · rename_i d e2
          obtain ⟨v, ev, qv⟩ := g.get e2
          have ea := fun (i : Int) (e : place i xs.length = some k) => (show atI vs i = some v by
            unfold atI
            rw [← g.length, place_ix e]
            exact ev)
          rcases hv with hv | hv
          · exact .inl (.inl ⟨_, _, _, _, rfl, rfl, hv, ea _ e, hs.fin h qv⟩)
          · exact .inl (.inr ⟨_, _, _, _, rfl, rfl, hv, ea _ e, hs.fin h qv⟩)
        · exact hs.elim
      · exact hs.elim
    · exact hs.elim
  · exact hs.elim
end OM
set_option Elab.async false
set_option linter.all false
set_option maxRecDepth 100000
set_option maxHeartbeats 1000000
/-! OmVal3: slices, built-in functions and methods, isinstance, by values. -/
namespace OM
open PySem PySem.Spec PyProof.Rows L2

/-! ### slices -/
theorem clip_ix (n d : Nat) (o : Option Int) : HT.sIx n d o = clip n d o := by
  cases o with
  | none => rfl
  | some v =>
    show (if v < 0 then (v + (n : Int)).toNat else min v.toNat n) = (if 0 ≤ v then min v.toNat n else (v + (n : Int)).toNat)
    by_cases h : v < 0
    · rw [if_pos h, if_neg (by omega)]
    · rw [if_neg h, if_pos (by omega)]
theorem Reps.cut {R : RP} {r : List Addr} {H : Hp} {ds : List D} {vs : List V} (g : Reps R r H ds vs) (lo hi : Option Int) : Reps R r H (OM.cut ds lo hi) (cutV vs lo hi) := by
  unfold OM.cut cutV
  rw [← g.length, clip_ix, clip_ix]
  exact Reps.takeL _ (Reps.drop _ g)
theorem cut_sub {α : Type} (xs : List α) (lo hi : Option Int) : (cut xs lo hi).Sublist xs := by
  unfold cut
  exact (List.take_sublist _ _).trans (List.drop_sublist _ _)
theorem cut_all {α : Type} {xs : List α} {lo hi : Option Int} (h : clip xs.length 0 lo = 0) (h2 : clip xs.length xs.length hi = xs.length) : cut xs lo hi = xs := by
  unfold cut
  rw [h, h2]
  simp
def VR3 (R : RP) (rel : V → Option Int → Option Int → Hp → VK → Prop) (f : D → Option Int → Option Int → Sto → Out D) : Prop :=
  ∀ {W : WX} {rs : List Nat} {st : L2.St} {r : List Addr} {S : Sto} {H : Hp} {x : D} {lo hi : Option Int} {xv : V} {Q : VK}, RS R rs r S H → Rep R r H x xv → Sat R W rs st r H (Rep R) (f x lo hi S) Q → rel xv lo hi H Q
def rSlU (K : PySem.W.Frag) : V → Option Int → Option Int → Hp → VK → Prop := fun x lo hi H Q => (rSlL K x lo hi H Q ∨ rSlA K x lo hi H Q) ∨ rSlS x lo hi H Q
theorem sl_r {X : Cx} : SlR X (rSlU X.K) := (sl_list.or sl_tupA).or sl_str
theorem sl_v {R : RP} : VR3 R (rSlU R.K) vSli := by
  intro W rs st r S H x lo hi xv Q h qx hs
  unfold vSli at hs
  split at hs
  · rename_i a
    cases qx with
    | str hx =>
      refine .inr ⟨_, rfl, by rw [mkS_len, ← line_eq]; exact okS_len hx, ?_⟩
      have e : cutS (mkS a) lo hi = mkS (cut a lo hi) := by
        unfold cutS cut
        rw [mkS_len, clip_ix, clip_ix]
        simp [mkS]
      rw [e]
      exact hs.fin h (.str (okS_sub hx (cut_sub a lo hi)))
  · rename_i xs
    cases qx with
    | frz f =>
      refine .inl (.inl ⟨_, _, rfl, f.sq, ?_⟩)
      have e : cutV (xs.map V.int) lo hi = (cut xs lo hi).map V.int := by
        unfold cut cutV
        rw [clip_ix, clip_ix, List.length_map, List.map_take, List.map_drop]
      rw [e]
      exact hs.newL h (Reps.mapInt _)
  · rename_i xs
    cases qx with
    | tup f g =>
      rename_i ds
      refine .inl (.inr ⟨_, _, rfl, f.sq, fun ⟨w1, w2⟩ => ?_, fun w => ?_⟩)
      · rw [clip_ix, ← g.length] at w1 w2
        rw [cut_all w1 w2] at hs
        exact hs.fin h (.tup f g)
      · exact hs.newT h (g.cut lo hi)
  · split at hs
    · rename_i xs e
      obtain ⟨a, vs, rfl, ha, g⟩ := lst_of h qx e
      exact .inl (.inl ⟨_, _, rfl, .of ha, hs.newL h (g.cut lo hi)⟩)
    · exact hs.elim

/-! ### built-in functions of one value -/
section
variable {R : RP} {W : WX} {rs : List Nat} {st : L2.St} {r : List Addr} {S : Sto} {H : Hp} {Q : VK}
theorem len_of (h : RS R rs r S H) {d : D} {v : V} {n : Nat} (q : Rep R r H d v) (e : lenOf S d = some n) : LenV R.K v H n := by
  unfold lenOf at e
  split at e
  · cases q with
    | str hx =>
      cases e
      exact ⟨by rw [mkS_len, ← line_eq]; exact okS_len hx, (mkS_len _).symm⟩
  · cases e1 : seqOf S d with
    | none => rw [e1] at e; cases e
    | some xs =>
      rw [e1] at e
      cases e
      obtain ⟨a, vs, rfl, hv, g⟩ := seq_of h q e1
      rcases hv with hv | hv
      · exact .inl ⟨_, hv, g.length⟩
      · exact .inr ⟨_, hv, g.length⟩
theorem bools_of : ∀ {ds : List D} {vs : List V} {bs : List Bool}, Reps R r H ds vs → bools ds = some bs → vs = bs.map V.bl
  | _, _, _, .nil, e => by cases e; rfl
  | _, _, bs, .cons (d := d) h t, e => by
    cases h with
    | bl b =>
      unfold bools at e
      rename_i ds vs
      cases e1 : bools ds with
      | none => rw [e1] at e; cases e
      | some cs =>
        rw [e1] at e
        cases e
        rw [List.map_cons, bools_of t e1]
    | _ => cases e
theorem texts_of : ∀ {ds : List D} {vs : List V} {ts : List (List Nat)}, Reps R r H ds vs → texts ds = some ts → vs = (ts.map mkS).map V.str ∧ ∀ t ∈ ts, okS t = true
  | _, _, _, .nil, e => by cases e; exact ⟨rfl, fun _ z => nomatch z⟩
  | _, _, bs, .cons (d := d) h t, e => by
    cases h with
    | str hx =>
      unfold texts at e
      rename_i ds vs x
      cases e1 : texts ds with
      | none => rw [e1] at e; cases e
      | some cs =>
        rw [e1] at e
        cases e
        obtain ⟨i1, i2⟩ := texts_of t e1
        refine ⟨by rw [List.map_cons, List.map_cons, i1], fun z hz => ?_⟩
        rcases List.mem_cons.mp hz with rfl | hz
        · exact hx
        · exact i2 z hz
    | _ => cases e
end
/-- what a built-in is as a value -/
def biV : Bi → Value
  | .len => .builtin "len"
  | .all => .builtin "all"
  | .any => .builtin "any"
  | .int => .type "int"
  | .str => .type "str"
  | .bool => .type "bool"
  | .list => .type "list"
  | .tuple => .type "tuple"
  | .sorted => .builtin "sorted"
  | .sum => .builtin "sum"
  | .max => .builtin "max"
  | .min => .builtin "min"
  | .repr => .builtin "repr"
def rBi (K : PySem.W.Frag) : Bi → List V → Hp → VK → Prop
  | .len => fun xs H Q => ∃ x n, xs = [x] ∧ LenV K x H n ∧ Q (.int n) H
  | .all => rAll K
  | .any => rAny K
  | .int => fun xs H Q => (∃ i, xs = [.int i] ∧ Q (.int i) H) ∨ ∃ k, xs = [.bl k] ∧ Q (.int (if k then 1 else 0)) H
  | .list => fun xs H Q => ∃ p ys, xs = [.ref p] ∧ (SqL K H p ys ∨ SqT K H p ys) ∧ ∀ l, H l = none → Q (.ref l) (upd H l (.lst ys))
  | .max => rMax K
  | .sorted => rSortedS K
  | .tuple => fun xs H Q => ∃ p ys, xs = [.ref p] ∧ ((SqL K H p ys ∧ ∀ l, H l = none → Q (.ref l) (upd H l (.tup ys))) ∨ (SqT K H p ys ∧ Q (.ref p) H))
  | _ => fun _ _ _ => False
theorem bi_r {X : Cx} (hc : X.calm = true) : ∀ b : Bi, CallR X (biV b) (rBi X.K b)
  | .len => call_len
  | .all => cr_all hc
  | .any => cr_any hc
  | .int => call_int1
  | .list => call_list_of
  | .tuple => call_tuple_of
  | .str => fun _ _ _ _ _ _ _ _ _ h => h.elim
  | .bool => fun _ _ _ _ _ _ _ _ _ h => h.elim
  | .sorted => cr_sortedS
  | .sum => fun _ _ _ _ _ _ _ _ _ h => h.elim
  | .max => cr_max hc
  | .min => fun _ _ _ _ _ _ _ _ _ h => h.elim
  | .repr => fun _ _ _ _ _ _ _ _ _ h => h.elim
theorem maxL_ge : ∀ (ns : List Int) (m : Int), m ≤ maxL m ns ∧ ∀ y ∈ ns, y ≤ maxL m ns
  | [], m => ⟨Int.le_refl _, fun _ z => nomatch z⟩
  | x :: xs, m => by
    unfold maxL
    obtain ⟨i1, i2⟩ := maxL_ge xs (if m < x then x else m)
    have h1 : m ≤ (if m < x then x else m) := by split <;> omega
    have h2 : x ≤ (if m < x then x else m) := by split <;> omega
    refine ⟨by omega, fun y hy => ?_⟩
    rcases List.mem_cons.mp hy with rfl | hy
    · omega
    · exact i2 y hy
theorem maxL_mem : ∀ (ns : List Int) (m : Int), maxL m ns = m ∨ maxL m ns ∈ ns
  | [], m => .inl rfl
  | x :: xs, m => by
    unfold maxL
    rcases maxL_mem xs (if m < x then x else m) with h | h
    · rw [h]
      split
      · exact .inr List.mem_cons_self
      · exact .inl rfl
    · exact .inr (List.mem_cons_of_mem _ h)
theorem ints_of {R : RP} {r : List Addr} {H : Hp} : ∀ {ds : List D} {vs : List V} {ns : List Int}, Reps R r H ds vs → intL ds = some ns → vs = ns.map V.int
  | _, _, _, .nil, e => by cases e; rfl
  | _, _, bs, .cons (d := d) h t, e => by
    cases h with
    | int i =>
      unfold intL at e
      rename_i ds vs
      cases e1 : intL ds with
      | none => rw [e1] at e; cases e
      | some cs =>
        rw [e1] at e
        cases e
        rw [List.map_cons, ints_of t e1]
    | _ => cases e
/-! ### texts in order -/
theorem lexLt_irr (a : List Nat) : lexLt a a = false := by rw [lexLt_iff]; exact decide_eq_false (List.lt_irrefl a)
theorem lexLt_tri {a b : List Nat} (h1 : lexLt a b = false) (h2 : lexLt b a = false) : a = b := by
  rw [lexLt_iff, decide_eq_false_iff_not] at h1 h2
  exact List.le_antisymm (List.not_lt.mp h2) (List.not_lt.mp h1)
theorem lexLt_trans {a b c : List Nat} (h1 : lexLt b a = false) (h2 : lexLt c b = false) : lexLt c a = false := by
  rw [lexLt_iff, decide_eq_false_iff_not] at *
  exact List.not_lt.mpr (List.le_trans (List.not_lt.mp h1) (List.not_lt.mp h2))
theorem insT_perm (x : List Nat) : ∀ l, (insT x l).Perm (x :: l)
  | [] => .refl _
  | y :: ys => by
    unfold insT
    split
    · exact ((insT_perm x ys).cons y).trans (.swap x y ys)
    · exact .refl _
theorem sortT_perm : ∀ l, (sortT l).Perm l
  | [] => .refl _
  | x :: xs => (insT_perm x _).trans ((sortT_perm xs).cons x)
abbrev leT (a b : List Nat) : Prop := lexLt b a = false
theorem insT_pw (x : List Nat) : ∀ l, l.Pairwise leT → (insT x l).Pairwise leT
  | [], _ => List.pairwise_singleton _ _
  | y :: ys, h => by
    obtain ⟨h1, h2⟩ := List.pairwise_cons.mp h
    unfold insT
    split
    · rename_i z
      refine List.pairwise_cons.mpr ⟨fun w hw => ?_, insT_pw x ys h2⟩
      rcases List.mem_cons.mp ((insT_perm x ys).mem_iff.mp hw) with rfl | hw
      · cases q : lexLt w y with
        | false => exact q
        | true =>
          rw [lexLt_iff, decide_eq_true_iff] at q z
          exact absurd (List.lt_trans q z) (List.lt_irrefl _)
      · exact h1 w hw
    · rename_i z
      have z : leT x y := by simpa using z
      refine List.pairwise_cons.mpr ⟨fun w hw => ?_, h⟩
      rcases List.mem_cons.mp hw with rfl | hw
      · exact z
      · exact lexLt_trans z (h1 w hw)
theorem sortT_pw : ∀ l, (sortT l).Pairwise leT
  | [] => .nil
  | x :: xs => insT_pw x _ (sortT_pw xs)
theorem ltCps_lex : ∀ a b : List Nat, ltCps a b = lexLt a b
  | [], [] => rfl
  | [], _ :: _ => rfl
  | _ :: _, [] => rfl
  | a :: r, b :: t => by
    unfold ltCps lexLt
    rw [ltCps_lex r t]
    by_cases h : a < b
    · rw [if_pos h, decide_eq_true h]
      rfl
    · rw [if_neg h, decide_eq_false h, Bool.false_or]
      by_cases h2 : b < a
      · rw [if_pos h2, beq_eq_false_iff_ne.mpr (by omega)]
        rfl
      · rw [if_neg h2, show a = b by omega, beq_self_eq_true]
        rfl
theorem rising_pw : ∀ (l : List Str) (p : Str), risingS p l = true → (p :: l).Pairwise fun a b => leT a.cps.toList b.cps.toList
  | [], p, _ => List.pairwise_singleton _ _
  | x :: r, p, h => by
    unfold risingS at h
    rw [Bool.and_eq_true, Bool.not_eq_true', ltCps_lex] at h
    have ih := rising_pw r x h.2
    refine List.pairwise_cons.mpr ⟨fun w hw => ?_, ih⟩
    rcases List.mem_cons.mp hw with rfl | hw
    · exact h.1
    · exact lexLt_trans h.1 ((List.pairwise_cons.mp ih).1 w hw)
theorem sort_uniq {ts : List (List Nat)} {ys : List Str} (h1 : ys.Perm (ts.map mkS)) (h2 : sortedS ys = true) : ys = (sortT ts).map mkS := by
  have back : ∀ l : List Str, (l.map fun y => y.cps.toList).map mkS = l := by
    intro l
    induction l with
    | nil => rfl
    | cons y l ih =>
      rw [List.map_cons, List.map_cons, ih]
      congr 1
  have fwd : ∀ l : List (List Nat), ((l.map mkS).map fun y => y.cps.toList) = l := by
    intro l
    induction l with
    | nil => rfl
    | cons y l ih => rw [List.map_cons, List.map_cons, ih]; rfl
  have p1 : (ys.map fun y => y.cps.toList).Perm ts := by
    have := h1.map fun y : Str => y.cps.toList
    rwa [fwd] at this
  have w1 : (ys.map fun y => y.cps.toList).Pairwise leT := by
    rw [List.pairwise_map]
    cases ys with
    | nil => exact .nil
    | cons y ys => exact rising_pw ys y h2
  have e := List.Perm.eq_of_pairwise (le := leT) (fun a b _ _ q1 q2 => (lexLt_tri q2 q1)) w1 (sortT_pw ts) (p1.trans (sortT_perm ts).symm)
  rw [← e, back]
def VRL (R : RP) (rel : List V → Hp → VK → Prop) (f : List D → Sto → Out D) : Prop :=
  ∀ {W : WX} {rs : List Nat} {st : L2.St} {r : List Addr} {S : Sto} {H : Hp} {xs : List D} {vs : List V} {Q : VK}, RS R rs r S H → Reps R r H xs vs → Sat R W rs st r H (Rep R) (f xs S) Q → rel vs H Q
theorem bi_v {R : RP} (mu : Bool) (b : Bi) : VRL R (rBi R.K b) (vBi mu b) := by
  intro W rs st r S H xs vs Q h qs hs
  unfold vBi at hs
  split at hs
  · rename_i x
    cases qs with
    | cons qx t =>
    cases t
    rename_i v
    cases b <;> unfold vBi1 at hs <;> dsimp only at hs
    case len =>
      split at hs
      · rename_i n e
        exact ⟨v, n, rfl, len_of h qx e, hs.fin h (.int _)⟩
      · exact hs.elim
    case all =>
      split at hs
      · rename_i bs e
        cases e1 : lstOf S x with
        | none => rw [e1] at e; cases e
        | some xs =>
          rw [e1] at e
          obtain ⟨a, vs, rfl, ha, g⟩ := lst_of h qx e1
          have e2 := bools_of g e
          subst e2
          exact ⟨_, bs, rfl, .of ha, hs.fin h (.bl _)⟩
      · exact hs.elim
    case any =>
      split at hs
      · rename_i bs e
        cases e1 : lstOf S x with
        | none => rw [e1] at e; cases e
        | some xs =>
          rw [e1] at e
          obtain ⟨a, vs, rfl, ha, g⟩ := lst_of h qx e1
          have e2 := bools_of g e
          subst e2
          exact ⟨_, bs, rfl, .of ha, hs.fin h (.bl _)⟩
      · exact hs.elim
    case int =>
      split at hs
      · cases qx
        exact .inl ⟨_, rfl, hs.fin h (.int _)⟩
      · cases qx
        exact .inr ⟨_, rfl, hs.fin h (.int _)⟩
      · exact hs.elim
    case list =>
      split at hs
      · rename_i ys e
        obtain ⟨a, vs, rfl, hv, g⟩ := seq_of h qx e
        exact ⟨_, _, rfl, hv, (hs.mkL h g).2⟩
      · exact hs.elim
    case tuple =>
      split at hs
      · rename_i ys e
        cases qx with
        | tup f g => cases e; exact ⟨_, _, rfl, .inr ⟨f.sq, hs.fin h (.tup f g)⟩⟩
        | lst f n g => cases e; exact ⟨_, _, rfl, .inl ⟨.of f, hs.newT h g⟩⟩
        | @ref n a z =>
          obtain ⟨c, o, e1, e2, e3⟩ := h.at z
          simp only [seqOf, e1] at e
          cases e3 with
          | lst g => cases e; exact ⟨_, _, rfl, .inl ⟨.of e2, hs.newT h g⟩⟩
          | obj _ _ => cases e
        | _ => cases e
      · exact hs.elim
    case max =>
      split at hs
      · rename_i n ns e
        cases e1 : lstOf S x with
        | none => rw [e1] at e; cases e
        | some xs =>
          rw [e1] at e
          obtain ⟨a, vs, rfl, ha, g⟩ := lst_of h qx e1
          have e2 := ints_of g e
          subst e2
          refine ⟨a, n :: ns, rfl, .of ha, Nat.succ_pos _, fun m hm hy => ?_⟩
          have e3 : m = maxL n ns := by
            obtain ⟨g1, g2⟩ := maxL_ge ns n
            have u1 : m ≤ maxL n ns := (List.mem_cons.mp hm).elim (fun z => by rw [z]; exact g1) (g2 m)
            have u2 : maxL n ns ≤ m := (maxL_mem ns n).elim (fun z => by rw [z]; exact hy n List.mem_cons_self) fun z => hy _ (List.mem_cons_of_mem _ z)
            omega
          rw [e3]
          exact hs.fin h (.int _)
      · exact hs.elim
    case sorted =>
      split at hs
      · rename_i ts e
        split at hs
        · rename_i hl
          cases e1 : lstOf S x with
          | none => rw [e1] at e; cases e
          | some xs =>
            rw [e1] at e
            obtain ⟨a, vs, rfl, ha, g⟩ := lst_of h qx e1
            obtain ⟨e2, okt⟩ := texts_of g e
            subst e2
            refine ⟨a, ts.map mkS, rfl, .of ha, by rw [List.length_map]; exact hl, fun ys p hp hy n => ?_⟩
            rw [sort_uniq hp hy]
            refine (hs.mkL h (vs := ((sortT ts).map mkS).map V.str) ?_).2 p n
            have all : ∀ l : List (List Nat), (∀ t ∈ l, okS t = true) → Reps R r H (l.map D.str) ((l.map mkS).map V.str) := by
              intro l
              induction l with
              | nil => intro _; exact .nil
              | cons t l ih => intro ho; exact .cons (.str (ho t List.mem_cons_self)) (ih fun u hu => ho u (List.mem_cons_of_mem _ hu))
            exact all _ fun t ht => okt t ((sortT_perm ts).mem_iff.mp ht)
        · exact hs.elim
      · exact hs.elim
    all_goals exact hs.elim
  · exact hs.elim

/-! ### isinstance of built-in classes -/
theorem kit_dec : ∀ k : Fin 7, ∀ t : Fin 7, kitB (tyN k.val) (tyN t.val) = some (kindIn k.val t.val) := by decide +kernel
theorem kit_k {K : PySem.W.Frag} {k t : Nat} (h : k < 7) (g : t < 7) : PySem.W.kitOne K (.type (tyN k)) (.type (tyN t)) = some (kindIn k t) := kit_ty (kit_dec ⟨k, h⟩ ⟨t, g⟩)
section
variable {R : RP} {rs : List Nat} {r : List Addr} {S : Sto} {H : Hp}
theorem kind_of (h : RS R rs r S H) {d : D} {v : V} {k : Nat} (q : Rep R r H d v) (e : kindOf S d = some k) : TyX R.K H v (.type (tyN k)) ∧ k < 7 := by
  cases q with
  | non => cases e; exact ⟨.base .non, by decide⟩
  | bl b => cases e; exact ⟨.base (.bl b), by decide⟩
  | int i => cases e; exact ⟨.base (.int i), by decide⟩
  | str hx => cases e; exact ⟨.base (.str _), by decide⟩
  | tup f g =>
    cases e
    refine ⟨?_, by decide⟩
    rcases f with ⟨f | ⟨o, f⟩, _⟩ | ⟨o, its, n, hk, hc, _⟩
    · exact .base (.tup f)
    · exact .fTuple f
    · exact .kTuple hk hc
  | lst f n g => cases e; exact ⟨.base (.lst f), by decide⟩
  | @ref n a z =>
    obtain ⟨c, o, e1, e2, e3⟩ := h.at z
    simp only [kindOf, e1] at e
    cases e3 with
    | lst g => cases e; exact ⟨.base (.lst e2), by decide⟩
    | obj _ _ => cases e
  | _ => cases e
theorem inst_of (h : RS R rs r S H) {d : D} {v : V} (q : Rep R r H d v) : ∀ {ts : List D} {us : List V} {b : Bool}, Reps R r H ts us → isInst S d ts = some b →
    ∃ ws, Paired ClsV us ws ∧ (ts = [] ∨ ∃ k, k < 7 ∧ TyX R.K H v (.type (tyN k)) ∧ kindOf S d = some k ∧ PySem.W.kitAny R.K (.type (tyN k)) ws = some b)
  | _, _, _, .nil, e => ⟨[], .nil, .inl rfl⟩
  | _, _, b, .cons (d := t) (ds := ts) qt g, e => by
    cases qt with
    | ty t =>
      unfold isInst at e
      cases e1 : kindOf S d with
      | none => rw [e1] at e; cases e
      | some k =>
        cases e2 : isInst S d ts with
        | none => rw [e1, e2] at e; cases e
        | some c =>
          rw [e1, e2] at e
          dsimp only at e
          by_cases ht : t < 7
          · rw [if_pos ht] at e
            cases e
            obtain ⟨ty, hk⟩ := kind_of h q e1
            obtain ⟨ws, p, i⟩ := inst_of h q g e2
            refine ⟨.type (tyN t) :: ws, .cons (.ty _) p, .inr ⟨k, hk, ty, rfl, ?_⟩⟩
            have rest : PySem.W.kitAny R.K (.type (tyN k)) ws = some c := by
              rcases i with i | ⟨k', _, _, e3, i⟩
              · subst i
                cases g
                cases p
                cases e2
                rfl
              · rw [e1] at e3
                cases e3
                exact i
            refine kitAny_cons (kit_k hk ht) (fun z => ?_) fun z => ?_
            · rw [z, Bool.false_or]; exact rest
            · rw [z, Bool.true_or]
          · rw [if_neg ht] at e; cases e
    | _ => cases e
end

/-! ### methods of built-in types -/
theorem joinT_eq (s : List Nat) : ∀ ts : List (List Nat), joinT s ts = TL.joinL s ts
  | [] => rfl
  | [_] => rfl
  | x :: y :: t => by
    unfold joinT TL.joinL
    rw [joinT_eq s (y :: t), List.append_assoc]
theorem sumLen_eq : ∀ ts : List (List Nat), ((ts.map mkS).map (·.length)).sum = sumLen ts
  | [] => rfl
  | x :: t => by
    rw [List.map_cons, List.map_cons, List.sum_cons, sumLen_eq t]
    show (mkS x).length + _ = _
    rw [mkS_len]
    rfl
theorem joinT_len (s : List Nat) : ∀ ts : List (List Nat), (joinT s ts).length ≤ sumLen ts + ts.length * s.length
  | [] => Nat.zero_le _
  | [x] => by simp [joinT, sumLen]
  | x :: y :: t => by
    have ih := joinT_len s (y :: t)
    unfold joinT
    simp only [List.length_append, List.length_cons, sumLen, Nat.add_mul] at ih ⊢
    omega
theorem joinT_mem (s : List Nat) {c : Nat} : ∀ ts : List (List Nat), c ∈ joinT s ts → c ∈ s ∨ ∃ t ∈ ts, c ∈ t
  | [], h => nomatch h
  | [x], h => .inr ⟨x, by simp, h⟩
  | x :: y :: t, h => by
    unfold joinT at h
    rcases List.mem_append.mp h with h | h
    · rcases List.mem_append.mp h with h | h
      · exact .inr ⟨x, by simp, h⟩
      · exact .inl h
    · rcases joinT_mem s (y :: t) h with h | ⟨z, hz, h⟩
      · exact .inl h
      · exact .inr ⟨z, List.mem_cons_of_mem _ hz, h⟩
def VRM (R : RP) (rel : V → List V → Hp → VK → Prop) (f : D → List D → Sto → Out D) : Prop :=
  ∀ {W : WX} {rs : List Nat} {st : L2.St} {r : List Addr} {S : Sto} {H : Hp} {x : D} {xs : List D} {v : V} {vs : List V} {Q : VK}, RS R rs r S H → Rep R r H x v → Reps R r H xs vs → Sat R W rs st r H (Rep R) (f x xs S) Q → rel v vs H Q
def rJoin (K : PySem.W.Frag) : V → List V → Hp → VK → Prop := fun x xs H Q => ∃ a p, ∃ ys : List Str, x = .str a ∧ xs = [.ref p] ∧ (SqL K H p (ys.map V.str) ∨ SqT K H p (ys.map V.str)) ∧
    (ys.map (·.length)).sum + ys.length * a.length ≤ 16777216 ∧ Q (.str (Txt.join a ys)) H
theorem join_v {R : RP} : VRM R (rJoin R.K) vJoin := by
  intro W rs st r S H x xs v vs Q h qx qs hs
  unfold vJoin at hs
  split at hs
  · rename_i s y
    cases qx with
    | str hx =>
    cases qs with
    | cons qy t =>
    cases t
    split at hs
    · rename_i ts e
      cases e1 : seqOf S y with
      | none => rw [e1] at e; cases e
      | some ys =>
        rw [e1] at e
        obtain ⟨a, us, rfl, hv, g⟩ := seq_of h qy e1
        obtain ⟨e2, ok⟩ := texts_of g e
        subst e2
        obtain ⟨hl, hs⟩ := okIf_sat hs
        have hl := of_decide_eq_true hl
        have hl2 : sumLen ts + ts.length * s.length ≤ 16777216 := hl
        refine ⟨_, _, ts.map mkS, rfl, rfl, hv, by rw [sumLen_eq, List.length_map, mkS_len]; exact hl2, ?_⟩
        have ej : Txt.join (mkS s) (ts.map mkS) = mkS (joinT s ts) := by rw [joinT_eq]; exact SX.join_S s ts
        rw [ej]
        exact hs.fin h (.str (okS_mk (Nat.le_trans (joinT_len s ts) hl) fun c hc => by
          rcases joinT_mem s ts hc with z | ⟨t, ht, z⟩
          · exact okS_all hx c z
          · exact okS_all (ok t ht) c z))
    · exact hs.elim
  · exact hs.elim

theorem fits_lo {rs : List Nat} {b : Nat} {v : D} (h : fitsIn rs b v = true) : ∀ m ∈ rs, b < m → v.lo m = true := fun m hm hb => by
  have q := List.all_eq_true.mp h m hm
  rw [Bool.or_eq_true] at q
  rcases q with q | q
  · have := of_decide_eq_true q
    omega
  · exact q
theorem loL_append {m : Nat} : ∀ {xs ys : List D}, loL m (xs ++ ys) = (loL m xs && loL m ys)
  | [], ys => by simp [loL]
  | x :: xs, ys => by
    simp only [List.cons_append, loL, loL_append (xs := xs), Bool.and_assoc]
theorem append_v {R : RP} : ∀ {W : WX} {rs : List Nat} {st : L2.St} {r : List Addr} {S : Sto} {H : Hp} {x : D} {xs : List D} {v : V} {vs : List V} {Q : VK}, RS R rs r S H → Rep R r H x v → Reps R r H xs vs → Sat R W rs st r H (Rep R) (vAppend rs x xs S) Q → rAppend v vs H Q := by
  intro W rs st r S H x xs v vs Q h qx qs hs
  unfold vAppend at hs
  split at hs
  · rename_i n y
    cases qx with
    | ref z =>
    cases qs with
    | cons qy t =>
    cases t
    obtain ⟨c, o, e1, e2, e3⟩ := h.at z
    simp only [e1] at hs
    cases e3 with
    | lst g =>
      dsimp only at hs
      split at hs
      · rename_i l
        rw [Bool.and_eq_true] at l
        have l1 := of_decide_eq_true l.1
        have hm := List.mem_of_getElem? z
        refine ⟨_, _, _, rfl, rfl, e2, by rw [← g.length, ← line_eq]; exact l1, ?_⟩
        refine hs r _ _ (.write hm) (h.write z (.lst ((g.append (.cons qy .nil)).ext (.write hm))) fun m hm' hn => ?_) .non
        unfold Cell.lo
        dsimp only
        rw [loL_append]
        have h1 := (h.reg m hm').2 n _ hn e1
        simp only [Cell.lo] at h1
        rw [h1, Bool.true_and]
        simp only [loL, fits_lo l.2 m hm' hn, Bool.and_true]
      · exact hs.elim
    | obj _ _ => exact hs.elim
  · exact hs.elim
/-- the rules by name -/
def rBm (K : PySem.W.Frag) : Bm → V → List V → Hp → VK → Prop
  | .join => rJoin K
  | .append => rAppend
def bmT : Bm → String
  | .join => "str"
  | .append => "list"
def bmN : Bm → String
  | .join => "join"
  | .append => "append"
def bmId : Bm → String
  | .join => "str.join"
  | .append => "list.append"
theorem bm_r {X : Cx} : ∀ b : Bm, MtR X (bmId b) (rBm X.K b)
  | .join => mt_join
  | .append => mt_append
theorem bm_v {R : RP} (b : Bm) : ∀ {W : WX} {rs : List Nat} {st : L2.St} {r : List Addr} {S : Sto} {H : Hp} {x : D} {xs : List D} {v : V} {vs : List V} {Q : VK}, RS R rs r S H → Rep R r H x v → Reps R r H xs vs → Sat R W rs st r H (Rep R) (vBm rs b x xs S) Q → rBm R.K b v vs H Q := by
  cases b with
  | join => exact fun h q g s => join_v h q g s
  | append => exact fun h q g s => append_v h q g s
/-- the receiver's type -/
theorem bm_ty {R : RP} (b : Bm) {rs : List Nat} {r : List Addr} {S : Sto} {H : Hp} {x : D} {v : V} (h : RS R rs r S H) (qx : Rep R r H x v) (hs : bmOk S b x = true) : tyV R.K (bmT b) v H := by
  cases b with
  | join =>
    unfold bmOk at hs
    dsimp only at hs
    split at hs
    · cases qx; rfl
    · cases hs
  | append =>
    unfold bmOk at hs
    dsimp only at hs
    split at hs
    · cases qx with
      | ref z =>
      obtain ⟨c, o, e1, e2, e3⟩ := h.at z
      simp only [e1] at hs
      cases e3 with
      | lst g => exact .inl ⟨rfl, _, .of e2⟩
      | obj _ _ => cases hs
    · cases hs
end OM
set_option Elab.async false
set_option linter.all false
set_option maxRecDepth 100000
set_option maxHeartbeats 1000000
/-! OmCall: what a def promises, the end of a call, a call with any arguments. -/
namespace OM
open PySem PySem.Spec PyProof.Rows L2

/-- the promise of a def that does what g does -/
def spOf (R : RP) (np : Nat) (g : List D → List Nat → Sto → Out D) : Sp := fun vs H Q E =>
  ∃ hid r S ds rs, ds.length = np ∧ RS (R.h hid) rs r S H ∧ Reps (R.h hid) r H ds vs ∧ Sat (R.h hid) (fun c d _ H => E c d H) rs [] r H (Rep (R.h hid)) (g ds rs S) Q

theorem RepC.low {R : RP} {r : List Addr} {H : Hp} {c : Cell} {o : HO} (h : RepC R r H c o) : c.lo r.length = true := by
  cases h with
  | lst g => exact g.low
  | obj m g => exact g.low
section
variable {R : RP} {W : WX} {rs : List Nat} {st : L2.St} {r r' : List Addr} {S S' : Sto} {H H' : Hp} {Q : VK}
theorem RS.region (h : RS R rs r S H) : RS R (S.length :: rs) r S H :=
  ⟨h.len, h.nd, h.cell, fun m hm => by
    rcases List.mem_cons.mp hm with rfl | hm
    · refine ⟨Nat.le_refl _, fun n c _ e => ?_⟩
      obtain ⟨a, o, _, _, q⟩ := h.cell n c e
      rw [← h.len]
      exact q.low
    · exact h.reg m hm, h.hd, h.tabs⟩
theorem Ext.cut {n : Nat} (e : Ext r H r' H') (hn : r.length = n) : Ext r H (r'.take n) H' :=
  ⟨fun k hk => by rw [List.getElem?_take_of_lt (by omega)]; exact e.old k hk, e.keep, fun a m => e.new a (List.mem_of_mem_take m)⟩
theorem RS.cut {n : Nat} (h : RS R (n :: rs) r' S' H') (hr : ∀ m ∈ rs, m ≤ n) : RS R rs (r'.take n) (S'.take n) H' := by
  obtain ⟨hn, hc⟩ := h.reg n List.mem_cons_self
  refine ⟨by rw [List.length_take, List.length_take, h.len], h.nd.sublist (List.take_sublist _ _), fun k c e => ?_, fun m hm => ?_, fun a m => ⟨nin_take (h.hd a m).1, (h.hd a m).2⟩, h.tabs⟩
  · have hk : k < n := by
      have := (List.getElem?_eq_some_iff.mp e).1
      rw [List.length_take] at this
      omega
    rw [List.getElem?_take_of_lt hk] at e
    obtain ⟨a, o, e1, x, y⟩ := h.cell k c e
    exact ⟨a, o, by rw [List.getElem?_take_of_lt hk]; exact e1, x, y.take n (hc k c hk e)⟩
  · obtain ⟨h1, h2⟩ := h.reg m (List.mem_cons_of_mem _ hm)
    have := hr m hm
    refine ⟨by rw [List.length_take]; omega, fun k c hk e => ?_⟩
    rw [List.getElem?_take_of_lt (by omega)] at e
    exact h2 k c hk e
theorem nin_cut {n k : Nat} {a : Addr} (nd : r.Nodup) (e : r[k]? = some a) (h : n ≤ k) : a ∉ r.take n := fun m => by
  obtain ⟨j, hj, q⟩ := List.getElem_of_mem m
  rw [List.length_take] at hj
  rw [List.getElem_take] at q
  obtain ⟨h1, g1⟩ := List.getElem?_eq_some_iff.mp e
  have := (List.getElem_inj nd).mp (g1.trans q.symm)
  omega
theorem Rep.frozen {n : Nat} {d d' : D} {v : V} (h : RS R rs r S H) (q : Rep R r H d v) (e : frz1 S n d = some d') : Rep R (r.take n) H d' v := by
  have plain : ∀ {d : D} {v : V}, Rep R r H d v → (if d.lo n = true then some d else none) = some d' → Rep R (r.take n) H d' v := fun {d v} q e => by
    by_cases l : d.lo n = true
    · rw [if_pos l] at e
      cases e
      exact q.take n l
    · rw [if_neg l] at e; cases e
  cases q with
  | @ref k a z =>
    unfold frz1 at e
    dsimp only at e
    by_cases hk : k < n
    · rw [if_pos hk] at e
      cases e
      exact .ref (by rw [List.getElem?_take_of_lt hk]; exact z)
    · rw [if_neg hk] at e
      obtain ⟨c, o, e1, e2, e3⟩ := h.at z
      simp only [e1] at e
      have ni : Fre R (r.take n) a := ⟨nin_cut h.nd z (Nat.le_of_not_lt hk), fun m => (h.hd a m).1 (List.mem_of_getElem? z)⟩
      cases e3 with
      | lst g =>
        dsimp only at e
        split at e
        · rename_i l
          cases e
          exact .lst e2 ni (g.take n l)
        · cases e
      | obj m g =>
        dsimp only at e
        split at e
        · rename_i l
          cases e
          exact .obj e2 ni m (g.take n l)
        · cases e
  | non => exact plain .non e
  | bl b => exact plain (.bl b) e
  | int i => exact plain (.int i) e
  | str x => exact plain (.str x) e
  | tup f g => exact plain (.tup f g) e
  | lst f m g => exact plain (.lst f m g) e
  | frz f => exact plain (.frz f) e
  | obj a b c d => exact plain (.obj a b c d) e
  | exc a b c d f g => exact plain (.exc a b c d f g) e
  | pin a b c d g => exact plain (.pin a b c d g) e
  | fn k => exact plain (.fn k) e
  | cls k => exact plain (.cls k) e
  | ty k => exact plain (.ty k) e
theorem RepX.take {n : Nat} {x : D} {cls : Value} {dd : Option Addr} (q : RepX R r H x cls dd) (l : x.lo n = true) : RepX R (r.take n) H x cls dd := by
  obtain ⟨c, ns, ds, dx, fs, rfl, h1, h2, h3, h4, h5, h6⟩ := q
  exact ⟨c, ns, ds, dx, fs, rfl, h1, h2, h3, h4.take, h5, h6.take n (by unfold D.lo at l; exact l)⟩
/-- the end of a call whose cells go -/
theorem Sat.endCall {o : Out D} (h : RS R rs r S H) (hs : Sat R W rs st r H (Rep R) (endCall S o) Q) : Sat R (fun c d _ H => W c d st H) (S.length :: rs) [] r H (Rep R) o Q := by
  have hr : ∀ m ∈ rs, m ≤ S.length := fun m hm => (h.reg m hm).1
  cases o with
  | ok d S' =>
    intro r' H' v e h' q
    unfold OM.endCall at hs
    dsimp only at hs
    split at hs
    · rename_i d' e2
      exact hs _ _ _ (e.cut h.len) (h'.cut hr) (q.frozen h' e2)
    · exact hs.elim
  | exc x S' =>
    intro r' H' cls dd e h' q
    unfold OM.endCall at hs
    dsimp only at hs
    split at hs
    · rename_i l
      exact hs _ _ _ _ (e.cut h.len) (h'.cut hr) (q.take l)
    · exact hs.elim
  | bad => exact hs
end

/-! ### binding -/
theorem lookN_rel {α β : Type} {P : α → β → Prop} {x : Nat} : ∀ {kn : List Nat} {ka : List α} {kb : List β}, Paired P ka kb → (∀ a, lookN x kn ka = some a → ∃ b, lookN x kn kb = some b ∧ P a b) ∧ (lookN x kn ka = none → lookN x kn kb = none)
  | [], _, _, _ => ⟨fun _ z => by simp [lookN] at z, fun _ => by simp [lookN]⟩
  | _ :: _, _, _, .nil => ⟨fun _ z => by simp [lookN] at z, fun _ => by simp [lookN]⟩
  | n :: ns, a :: ka, b :: kb, .cons p t => by
    obtain ⟨i1, i2⟩ := lookN_rel (x := x) (kn := ns) t
    unfold lookN
    cases hn : n == x with
    | true =>
      simp only [if_true]
      exact ⟨fun a' e => by cases e; exact ⟨b, rfl, p⟩, fun z => by cases z⟩
    | false =>
      simp only [Bool.false_eq_true, if_false]
      exact ⟨i1, i2⟩
theorem Paired.get' {α β : Type} {P : α → β → Prop} : ∀ {as : List α} {bs : List β} {i : Nat} {a : α}, Paired P as bs → as[i]? = some a → ∃ b, bs[i]? = some b ∧ P a b
  | _, _, _, _, .nil, e => by simp at e
  | _, _, 0, _, .cons h _, e => by simp at e; subst e; exact ⟨_, rfl, h⟩
  | _, _, i + 1, _, .cons _ t, e => by
    obtain ⟨v, q, h⟩ := Paired.get' (i := i) t (by simpa using e)
    exact ⟨v, by simpa using q, h⟩
theorem bindA_rel {α β : Type} {P : α → β → Prop} {dv : List α} {dw : List β} (hd : Paired P dv dw) {kn : List Nat} {ka : List α} {kb : List β} (hk : Paired P ka kb) : ∀ {ps : List Nat} {as : List α} {bs : List β} {zs : List α}, Paired P as bs → bindA dv ps as kn ka = some zs →
    ∃ ws, bindA dw ps bs kn kb = some ws ∧ Paired P zs ws
  | [], [], _, zs, .nil, e => by
    unfold bindA at e
    cases e
    exact ⟨[], rfl, .nil⟩
  | [], _ :: _, _, _, .cons _ _, e => by unfold bindA at e; cases e
  | p :: ps, a :: as, b :: bs, zs, .cons q t, e => by
    unfold bindA at e
    cases e1 : bindA dv ps as kn ka with
    | none => rw [e1] at e; cases e
    | some ys =>
      rw [e1] at e
      cases e
      obtain ⟨ws, i1, i2⟩ := bindA_rel hd hk t e1
      exact ⟨b :: ws, by unfold bindA; rw [i1]; rfl, .cons q i2⟩
  | p :: ps, [], _, zs, .nil, e => by
    unfold bindA at e
    obtain ⟨l1, l2⟩ := lookN_rel (x := p) (kn := kn) hk
    cases e0 : lookN p kn ka with
    | some d =>
      obtain ⟨b, e0', pb⟩ := l1 d e0
      rw [e0] at e
      dsimp only at e
      cases e1 : bindA dv ps [] kn ka with
      | none => rw [e1] at e; cases e
      | some ys =>
        rw [e1] at e
        cases e
        obtain ⟨ws, i1, i2⟩ := bindA_rel hd hk .nil e1
        exact ⟨b :: ws, by unfold bindA; rw [e0']; dsimp only; rw [i1]; rfl, .cons pb i2⟩
    | none =>
      have e0' := l2 e0
      rw [e0] at e
      dsimp only at e
      have hl : dv.length = dw.length := Paired.length hd
      by_cases hp : ps.length < dv.length
      · rw [if_pos hp] at e
        cases e2 : dv[dv.length - (ps.length + 1)]? with
        | none => rw [e2] at e; cases e
        | some d =>
          rw [e2] at e
          dsimp only at e
          obtain ⟨b, e2', pb⟩ := Paired.get' hd e2
          cases e1 : bindA dv ps [] kn ka with
          | none => rw [e1] at e; cases e
          | some ys =>
            rw [e1] at e
            cases e
            obtain ⟨ws, i1, i2⟩ := bindA_rel hd hk .nil e1
            refine ⟨b :: ws, ?_, .cons pb i2⟩
            unfold bindA
            rw [e0']
            dsimp only
            rw [if_pos (by omega), ← hl, e2']
            dsimp only
            rw [i1]
            rfl
      · rw [if_neg hp] at e; cases e
theorem bindA_len {α : Type} {dv : List α} {kn : List Nat} {ka : List α} : ∀ {ps : List Nat} {as zs : List α}, bindA dv ps as kn ka = some zs → zs.length = ps.length
  | [], [], zs, e => by unfold bindA at e; cases e; rfl
  | [], _ :: _, _, e => by unfold bindA at e; cases e
  | p :: ps, a :: as, zs, e => by
    unfold bindA at e
    cases e1 : bindA dv ps as kn ka with
    | none => rw [e1] at e; cases e
    | some ys => rw [e1] at e; cases e; rw [List.length_cons, List.length_cons, bindA_len e1]
  | p :: ps, [], zs, e => by
    unfold bindA at e
    cases e0 : lookN p kn ka with
    | some d =>
      rw [e0] at e
      dsimp only at e
      cases e1 : bindA dv ps [] kn ka with
      | none => rw [e1] at e; cases e
      | some ys => rw [e1] at e; cases e; rw [List.length_cons, List.length_cons, bindA_len e1]
    | none =>
      rw [e0] at e
      dsimp only at e
      by_cases hp : ps.length < dv.length
      · rw [if_pos hp] at e
        cases e2 : dv[dv.length - (ps.length + 1)]? with
        | none => rw [e2] at e; cases e
        | some d =>
          rw [e2] at e
          dsimp only at e
          cases e1 : bindA dv ps [] kn ka with
          | none => rw [e1] at e; cases e
          | some ys => rw [e1] at e; cases e; rw [List.length_cons, List.length_cons, bindA_len e1]
      · rw [if_neg hp] at e; cases e
/-- one shape of call: n positional values, the keywords kn -/
def Shape (K : PySem.W.Frag) (an : Nat → Str) (fd : FuncData) (ps : List Nat) (dw : List Value) (n : Nat) (kn : List Nat) : Prop :=
  ∀ (s : Shared) (us ws zs : List Value), K.In s.heap → us.length = n → ws.length = kn.length → bindA dw ps us kn ws = some zs → BindsTo s fd ⟨us, (kn.map an).zip ws⟩ ((ps.map an).zip zs)

/-! ### the call -/
theorem bindA_vals {dvs vs kvs zs : List V} {dw us ws : List Value} {ps kn : List Nat} (hd : Vals dvs dw) (hv : Vals vs us) (hk : Vals kvs ws) (e : bindA dvs ps vs kn kvs = some zs) : ∃ xs, bindA dw ps us kn ws = some xs ∧ Vals zs xs := bindA_rel hd hk hv e
section
variable {X : Cx} {W : WX} {k : Nat} {f : Addr} {fd : FuncData} {ps kn : List Nat} {an : Nat → Str} {sp : Sp} {dvs : List V} {dw : List Value} {x : Str} {p pos : Pos} {es : List Expr} {kws : List Keyword} {t tk : TA}
def tCallG (W : WX) (sp : Sp) (ps : List Nat) (dvs : List V) (n : Nat) (kn : List Nat) (t tk : TA) : TE := fun σ H Q => t σ H fun vs H1 => tk σ H1 fun ks H2 => vs.length = n ∧ ks.length = kn.length ∧ ∃ zs, bindA dvs ps vs kn ks = some zs ∧ sp zs H2 Q (fun c d H => W c d σ H)
theorem run_fnG {pins : List (Addr × Obj)} {σ : L2.St} {H : Hp} {s : Shared} {Q : VK} {us ws : List Value} {vs ks zs : List V} (F : FnOk X.prog X.w X.K X.mg X.base (L2.CX X.prog X.w) k f fd (ps.map an) sp) (hr : Room k X.A) (tkW : Takes X W) (hd : Vals dvs dw) (sh : Shape X.K an fd ps dw us.length kn)
    (I : Inv X pins σ H s) (rv : Vals vs us) (rk : Vals ks ws) (hl : ws.length = kn.length) (e : bindA dvs ps vs kn ks = some zs) (h : sp zs H Q (fun c d H => W c d σ H)) : wpAny (model X.prog X.w) X.A (call (.ref f) us ((kn.map an).zip ws)) (EP X pins σ Q) X.xe s := by
  obtain ⟨xs, e2, rz⟩ := bindA_vals hd rv rk e
  refine wpAny_call (codeAny_mono (F.run X.A X.stack s H ⟨us, (kn.map an).zip ws⟩ xs zs Q _ hr I.env0 (sh s us ws xs I.kIn rfl hl e2) rz h) fun r s' hq => ?_)
  cases r with
  | error e => exact tkW _ _ (XE.of_call I (fun cls d H' w => w) hq)
  | ok fl =>
    cases fl with
    | ret u => exact I.after hq
    | next => exact False.elim hq
    | brk => exact False.elim hq
    | cont => exact False.elim hq
theorem pe_callG {e : Expr} {r : List Expr} (F : FnOk X.prog X.w X.K X.mg X.base (L2.CX X.prog X.w) k f fd (ps.map an) sp) (hr : Room k X.A) (tkW : Takes X W) (hg : Gl X x) (hm : X.mg x = some (.ref f)) (hk : PySem.W.keepIn X.K (.ref f) = true) (hd : Vals dvs dw) {n : Nat} (sh : Shape X.K an fd ps dw n kn)
    (ha : PA X (e :: r) t) (hkw : PK X kws tk) (hall : (backToKw pos (keywordEach kws X.env)).all (·.1.isSome) = true) (hks : (backToKw pos (keywordEach kws X.env)).filterMap (·.1) = kn.map an)
    (hdb : (x == ("__debug__" : Str)) = false) (he : starEach (e :: r) X.env = (false, eval e X.env) :: starEach r X.env)
    (hpl : ((backTo pos (starEach (e :: r) X.env)).any (·.1) || (backToKw pos (keywordEach kws X.env)).any (·.1.isNone)) = false) :
    PE X (.Call (.Name x p) (e :: r) kws pos) (tCallG W sp ps dvs n kn t tk) := by
  refine ⟨fun pins s σ H Q I h => ?_⟩
  refine wpAny_Call_Name_kw (ld_glob I hg hm ?_ hdb)
  refine PySem.W.callWith_KW (h₀ := X.base) I.ok.mod.kin hk hall (thn (ha.run pos pins s σ H _ I h) fun us s1 ⟨vs, H1, I1, rv, q⟩ => ?_) hpl he
  refine thn (hkw.run pos pins s1 σ H1 _ I1 q) fun ws s2 ⟨ks, H2, I2, rk, q2⟩ => ⟨I2.kIn, ?_⟩
  obtain ⟨l1, l2, zs, e2, q3⟩ := q2
  rw [hks]
  have hl : us.length = n := by rw [← rv.length]; exact l1
  exact run_fnG F hr tkW hd (by rw [List.nil_append, hl]; exact sh) I2 rv rk (by rw [← rk.length]; exact l2) e2 q3
theorem pe_callG0 (F : FnOk X.prog X.w X.K X.mg X.base (L2.CX X.prog X.w) k f fd (ps.map an) sp) (hr : Room k X.A) (tkW : Takes X W) (hg : Gl X x) (hm : X.mg x = some (.ref f)) (hk : PySem.W.keepIn X.K (.ref f) = true) (hd : Vals dvs dw) (sh : Shape X.K an fd ps dw 0 kn)
    (hkw : PK X kws tk) (hall : (backToKw pos (keywordEach kws X.env)).all (·.1.isSome) = true) (hks : (backToKw pos (keywordEach kws X.env)).filterMap (·.1) = kn.map an)
    (hdb : (x == ("__debug__" : Str)) = false) (hpl : ((backTo pos (starEach [] X.env)).any (·.1) || (backToKw pos (keywordEach kws X.env)).any (·.1.isNone)) = false) :
    PE X (.Call (.Name x p) [] kws pos) (tCallG W sp ps dvs 0 kn tNil tk) := by
  refine ⟨fun pins s σ H Q I h => ?_⟩
  refine wpAny_Call_Name_kw (ld_glob I hg hm ?_ hdb)
  refine PySem.W.callWith_KW0 (h₀ := X.base) I.ok.mod.kin hk hall ?_ hpl
  refine thn (hkw.run pos pins s σ H _ I h) fun ws s2 ⟨ks, H2, I2, rk, q2⟩ => ⟨I2.kIn, ?_⟩
  obtain ⟨l1, l2, zs, e2, q3⟩ := q2
  rw [hks]
  exact run_fnG (us := []) F hr tkW hd sh I2 .nil rk (by rw [← rk.length]; exact l2) e2 q3
end
end OM
set_option Elab.async false
set_option linter.all false
set_option maxRecDepth 100000
set_option maxHeartbeats 1000000
/-! OmExpr: each construct of an expression, from its parts. -/
namespace OM
open PySem PySem.Spec PyProof.Rows L2

/-- what a body's context is -/
structure Scp where
  sc : Scope
  fn : Str → Bool
  /-- an exception is handled -/
  hot : Bool
  /-- lambdas may be made -/
  lam : Bool
structure XOk (R : RP) (N : List Str) (c : Scp) (X : Cx) : Prop where
  hN : X.N = N
  nd : N.Nodup
  sc : X.env.scope = c.sc
  fn : X.fn = c.fn
  K : X.K = R.K
  calm : c.hot = false → X.calm = true
  pin : ∀ p ∈ R.pin, ∃ oe, (p.1, oe) ∈ X.pn ∧ Zc (.ref (R.cadr p.2.1)) (some p.2.2) oe ∧ ∃ vs, oe.data = .fields vs
  pin0 : c.hot = false → R.pin = []
  un : X.A.units + 64 < cLine
  dp : X.A.depth + 1 < recursionLimit

def isNm (sc : Scope) (k : NameKind) (x : Str) : Bool := match sc.names.lookup x with
  | some j => decide (j = k)
  | none => false
def noDbg (x : Str) : Bool := !(x == ("__debug__" : Str)) && !(x == ("__classdict__" : Str))
def chkVar (N : List Str) (sc : Scope) (i : Nat) (x : Str) : Bool := decide (N[i]? = some x) && (isNm sc .local x || (isNm sc .cell x || isNm sc .free x)) && noDbg x
def chkGl (sc : Scope) (x : Str) : Bool := isNm sc .globalImplicit x && noDbg x
/-- an expression that has no star -/
def noStar : Expr → Bool
  | .Starred _ _ => false
  | _ => true
def noSet : Expr → Bool
  | .Set _ _ _ => false
  | _ => true
def noSlice : Expr → Bool
  | .Slice _ _ _ _ => false
  | _ => true
def noSuper : Expr → Bool
  | .Call (.Name id _) [] [] _ => !(id == ("super" : Str))
  | _ => true
/-- an expression whose test is its value's truth -/
def plainTest : Expr → Bool
  | .UnaryOp .Not _ _ => false
  | .BoolOp _ _ _ => false
  | .IfExp _ _ _ _ => false
  | .Compare _ _ _ _ => false
  | _ => true

theorem isNm_iff {sc : Scope} {k : NameKind} {x : Str} (h : isNm sc k x = true) : sc.names.lookup x = some k := by
  unfold isNm at h
  split at h
  · rename_i j e
    rw [e, of_decide_eq_true h]
  · cases h
theorem star_of {e : Expr} {es : List Expr} {env : Env} (h : noStar e = true) : starEach (e :: es) env = (false, eval e env) :: starEach es env := by
  cases e <;> first | rfl | cases h
theorem behind_of {e : Expr} {op : CmpOp} (h : noSet e = true) : behindInMarks op e = false := by
  cases e <;> first | rfl | cases h
theorem folded_of {e : Expr} {env : Env} (h : noSet e = true) : ∀ x, foldedSetIterable e env x = pure x := by
  intro x
  cases e <;> first | rfl | cases h
theorem plainIx_of {e : Expr} (h : noSlice e = true) : PlainIx e := by
  intro o i
  cases e <;> first | rfl | cases h
theorem test_of {e : Expr} {env : Env} (h : plainTest e = true) : ∀ whole, isTrue e env whole = (do let v ← whole; standAt e.pos; holding [v] (truthy v)) := by
  intro whole
  cases e <;> first | rfl | cases h | skip
  rename_i op _ _
  cases op <;> first | rfl | cases h
theorem super_of {e : Expr} {m : Str} {env : Env} (h : noSuper e = true) (whole : Sem Value) : attributeBase e m env whole = whole := by
  unfold attributeBase
  split
  · rename_i id p pos
    unfold noSuper at h
    dsimp only at h
    rw [Bool.not_eq_true'] at h
    rw [if_pos (by simp [bne, h])]
  · rfl

section
variable {R : RP} {W : WX} {rs : List Nat} {X : Cx} {N : List Str} {c : Scp}

theorem se_slot {i : Nat} {x : Str} {pos : Pos} {C : Cxt} (ok : XOk R N c X) (h : chkVar N c.sc i x = true) : SE R W rs X (.Name x pos) (ev C rs (.slot i)) := by
  unfold chkVar noDbg at h
  simp only [Bool.and_eq_true, Bool.or_eq_true, Bool.not_eq_true', decide_eq_true_eq] at h
  obtain ⟨⟨h1, h2⟩, h3, h4⟩ := h
  have hv : Vis X.env.scope x := by
    rw [ok.sc]
    rcases h2 with h2 | h2 | h2
    · exact .inl (isNm_iff h2)
    · exact .inr (.inl (isNm_iff h2))
    · exact .inr (.inr (isNm_iff h2))
  refine (pe_var (i := i) (pos := pos) (by rw [ok.hN]; exact h1) hv h3 h4).imp fun st H Q ⟨r, F, S, h, hF, hs⟩ => ?_
  unfold ev at hs
  split at hs
  · rename_i d e
    obtain ⟨v, e2, q⟩ := hF.at_ i d e
    exact ⟨v, e2, hs.fin h q⟩
  · exact hs.elim
theorem se_bin {o : BinO} {a b : CE} {ea eb : Expr} {pos : Pos} {C : Cxt} (ok : XOk R N c X) (ha : SE R W rs X ea (ev C rs a)) (hb : SE R W rs X eb (ev C rs b)) : SE R W rs X (.BinOp ea (opOf o) eb pos) (ev C rs (.bin o a b)) := by
  refine (pe_op (pos := pos) (bin_r o) ha hb).imp fun st H Q ⟨r, F, S, h, hF, hs⟩ => ?_
  unfold ev at hs
  refine bindG h hF hs fun r1 S1 H1 x xv e1 h1 hF1 qx hs => bindG h1 hF1 hs fun r2 S2 H2 y yv e2 h2 hF2 qy hs => ?_
  rw [ok.K]
  exact bin_v o h2 (qx.ext e2) qy hs
theorem se_neg {a : CE} {ea : Expr} {pos : Pos} {C : Cxt} (ok : XOk R N c X) (ha : SE R W rs X ea (ev C rs a)) : SE R W rs X (.UnaryOp .USub ea pos) (ev C rs (.neg a)) := by
  refine (pe_un (pos := pos) un_neg ha).imp fun st H Q ⟨r, F, S, h, hF, hs⟩ => ?_
  unfold ev at hs
  refine bindG h hF hs fun r1 S1 H1 x xv e1 h1 hF1 qx hs => ?_
  split at hs
  · cases qx
    exact ⟨_, rfl, hs.fin h1 (.int _)⟩
  · exact hs.elim
theorem se_cmp {o : CmpO} {a b : CE} {ea eb : Expr} {pos : Pos} {C : Cxt} (ok : XOk R N c X) (ha : SE R W rs X ea (ev C rs a)) (hb : SE R W rs X eb (ev C rs b)) (ns : noSet eb = true) : SE R W rs X (.Compare ea [cmpOf o] [eb] pos) (ev C rs (.cmp o a b)) := by
  refine (pe_cmpR (pos := pos) (cmp_r ok.un o) ha hb (behind_of ns)).imp fun st H Q ⟨r, F, S, h, hF, hs⟩ => ?_
  unfold ev at hs
  refine bindG h hF hs fun r1 S1 H1 x xv e1 h1 hF1 qx hs => bindG h1 hF1 hs fun r2 S2 H2 y yv e2 h2 hF2 qy hs => ?_
  rw [ok.K]
  exact cmp_v o h2 (qx.ext e2) qy hs
/-- a comparison gives a bool -/
theorem vCmp_bl {o : CmpO} {x y d : D} {S S' : Sto} (h : vCmp o x y S = .ok d S') : ∃ b, d = .bl b ∧ S' = S := by
  unfold vCmp at h
  cases o <;> dsimp only at h <;> (repeat' split at h) <;> first | (cases h; exact ⟨_, rfl, rfl⟩) | cases h
theorem se_chain {o o' : CmpO} {a b d : CE} {ea eb ed : Expr} {pos : Pos} {C : Cxt} (ok : XOk R N c X) (ha : SE R W rs X ea (ev C rs a)) (hb : SE R W rs X eb (ev C rs b)) (hd : SE R W rs X ed (ev C rs d)) (ns : noSet ed = true) :
    SE R W rs X (.Compare ea [cmpOf o, cmpOf o'] [eb, ed] pos) (ev C rs (.chain o o' a b d)) := by
  refine (pe_chain (pos := pos) (cmp_r ok.un o) (cmp_r ok.un o') ha hb hd (behind_of ns)).imp fun st H Q ⟨r, F, S, h, hF, hs⟩ => ?_
  unfold ev at hs
  refine bindG h hF hs fun r1 S1 H1 x xv e1 h1 hF1 qx hs => bindG h1 hF1 hs fun r2 S2 H2 y yv e2 h2 hF2 qy hs => ?_
  rw [ok.K]
  refine cmp_v (W := W) (st := st) o h2 (qx.ext e2) qy ?_
  cases ec : vCmp o x y S2 with
  | bad => rw [ec] at hs; exact hs.elim
  | exc z S3 =>
    exfalso
    unfold vCmp at ec
    cases o <;> dsimp only at ec <;> (repeat' split at ec) <;> cases ec
  | ok t S3 =>
    obtain ⟨k, rfl, rfl⟩ := vCmp_bl ec
    rw [ec] at hs
    intro r3 H3 z e3 h3 qz
    cases qz
    refine ⟨k, rfl, ?_⟩
    have hF3 := hF2.ext e3
    have hs := Sat.shift e3 hs
    cases k with
    | true =>
      rw [if_pos rfl]
      refine bindG h3 hF3 hs fun r4 S4 H4 w wv e4 h4 hF4 qw hs => ?_
      exact cmp_v o' h4 ((qy.ext e3).ext e4) qw hs
    | false =>
      rw [if_neg Bool.false_ne_true]
      exact Sat.fin (a := D.bl false) hs h3 (.bl _)

/-! ### truth -/
theorem Out.bind_assoc {α β γ : Type} (o : Out α) (f : α → Sto → Out β) (g : β → Sto → Out γ) : (o.bind f).bind g = o.bind fun a S => (f a S).bind g := by
  cases o <;> rfl
def tst (o : Out D) : Out Bool := o.bind fun x S1 => match truth S1 x with
  | some b => .ok b S1
  | none => .bad
abbrev eqB (r : List Addr) (H : Hp) (a b : Bool) : Prop := a = b
def ST (R : RP) (W : WX) (rs : List Nat) (X : Cx) (e : Expr) (g : Fr → Sto → Out Bool) : Prop := PT X e (tG R W rs eqB g)
theorem bindTst {st : L2.St} {r : List Addr} {H : Hp} {S : Sto} {F : Fr} {g : Fr → Sto → Out D} {Q : Bool → Hp → Prop} {Q1 : V → Hp → Prop}
    (h : RS R rs r S H) (hF : RF R r H F st) (hs : Sat R W rs st r H eqB (tst (g F S)) Q)
    (k : ∀ r1 S1 H1 a x b, Ext r H r1 H1 → RS R rs r1 S1 H1 → RF R r1 H1 F st → Rep R r1 H1 a x → truth S1 a = some b → Q b H1 → Q1 x H1) : tG R W rs (Rep R) g st H Q1 := by
  refine bindG h hF hs fun r1 S1 H1 a x e1 h1 hF1 qx hs => ?_
  split at hs
  · rename_i b e
    exact k _ _ _ _ _ b e1 h1 hF1 qx e (Sat.fin (x := b) hs h1 rfl)
  · exact hs.elim
theorem st_plain {a : CE} {ea : Expr} {C : Cxt} (ok : XOk R N c X) (ha : SE R W rs X ea (ev C rs a)) (hp : plainTest ea = true) : ST R W rs X ea (fun F S => tst (ev C rs a F S)) := by
  refine (pt_truth ha (test_of hp)).imp fun st H Q ⟨r, F, S, h, hF, hs⟩ => ?_
  refine bindTst h hF hs fun r1 S1 H1 x xv b e1 h1 hF1 qx e q => ⟨b, ?_, q⟩
  rw [ok.K]
  exact truth_of h1 qx e
theorem se_not {a : CE} {ea : Expr} {pos : Pos} {C : Cxt} (ok : XOk R N c X) (ha : SE R W rs X ea (ev C rs a)) : SE R W rs X (.UnaryOp .Not ea pos) (ev C rs (.not a)) := by
  refine (pe_notT (pos := pos) ha).imp fun st H Q ⟨r, F, S, h, hF, hs⟩ => ?_
  unfold ev at hs
  refine bindG h hF hs fun r1 S1 H1 x xv e1 h1 hF1 qx hs => ?_
  split at hs
  · rename_i b e
    rw [ok.K]
    exact ⟨b, truth_of h1 qx e, hs.fin h1 (.bl _)⟩
  · exact hs.elim
theorem st_not {a : CE} {ea : Expr} {pos : Pos} {C : Cxt} (ok : XOk R N c X) (ha : ST R W rs X ea (fun F S => tst (ev C rs a F S))) : ST R W rs X (.UnaryOp .Not ea pos) (fun F S => tst (ev C rs (.not a) F S)) := by
  refine (pt_not (pos := pos) ha).imp fun st H Q ⟨r, F, S, h, hF, hs⟩ => ?_
  refine ⟨r, F, S, h, hF, ?_⟩
  simp only [tst, ev, Out.bind_assoc] at hs ⊢
  cases ea' : ev C rs a F S with
  | bad => rw [ea'] at hs; exact hs
  | exc x S1 => rw [ea'] at hs; exact hs
  | ok x S1 =>
    rw [ea'] at hs
    simp only [Out.bind] at hs ⊢
    cases t : truth S1 x with
    | none => rw [t] at hs; exact hs
    | some b =>
      rw [t] at hs
      simp only [truth] at hs
      intro r' H' v e' h' q
      exact hs r' H' (!v) e' h' (by rw [← (show b = v from q)])
theorem st_cmp {o : CmpO} {a b : CE} {ea eb : Expr} {pos : Pos} {C : Cxt} (ok : XOk R N c X) (ha : SE R W rs X ea (ev C rs a)) (hb : SE R W rs X eb (ev C rs b)) (ns : noSet eb = true) : ST R W rs X (.Compare ea [cmpOf o] [eb] pos) (fun F S => tst (ev C rs (.cmp o a b) F S)) := by
  refine (pt_cmpR (pos := pos) (cmp_r ok.un o) ha hb (behind_of ns)).imp fun st H Q ⟨r, F, S, h, hF, hs⟩ => ?_
  simp only [tst, ev, Out.bind_assoc] at hs
  refine bindG h hF hs fun r1 S1 H1 x xv e1 h1 hF1 qx hs => bindG h1 hF1 hs fun r2 S2 H2 y yv e2 h2 hF2 qy hs => ?_
  rw [ok.K]
  refine cmp_v (W := W) (st := st) o h2 (qx.ext e2) qy ?_
  cases ec : vCmp o x y S2 with
  | bad => rw [ec] at hs; exact hs.elim
  | exc z S3 =>
    exfalso
    unfold vCmp at ec
    cases o <;> dsimp only at ec <;> (repeat' split at ec) <;> cases ec
  | ok t S3 =>
    obtain ⟨k, rfl, rfl⟩ := vCmp_bl ec
    rw [ec] at hs
    intro r3 H3 z e3 h3 qz
    cases qz
    exact ⟨k, rfl, Sat.fin (a := k) (Sat.shift e3 hs) h3 rfl⟩
end
end OM
set_option Elab.async false
set_option linter.all false
set_option maxRecDepth 100000
set_option maxHeartbeats 1000000
/-! OmExpr2: and, or, conditions, argument lists, calls, displays. -/
namespace OM
open PySem PySem.Spec PyProof.Rows L2

section
variable {R : RP} {W : WX} {rs : List Nat} {X : Cx} {N : List Str} {c : Scp}
def bopOf (k : Bool) : BoolOp := if k then .And else .Or
theorem sb_one {k : Bool} {a : CE} {ea : Expr} {op : BoolOp} {pos : Pos} {C : Cxt} (ha : SE R W rs X ea (ev C rs a)) : PE X (.BoolOp op [ea] pos) (tG R W rs (Rep R) (evB C rs k [a])) := by
  refine (pe_one (pos := pos) ha).imp fun st H Q ⟨r, F, S, h, hF, hs⟩ => ⟨r, F, S, h, hF, ?_⟩
  simpa only [evB] using hs
theorem sb_cons {k : Bool} {a b : CE} {r : List CE} {ea eb : Expr} {er : List Expr} {pos : Pos} {C : Cxt} (ok : XOk R N c X) (ha : SE R W rs X ea (ev C rs a)) (hb : PE X (.BoolOp (bopOf k) (eb :: er) pos) (tG R W rs (Rep R) (evB C rs k (b :: r)))) :
    PE X (.BoolOp (bopOf k) (ea :: eb :: er) pos) (tG R W rs (Rep R) (evB C rs k (a :: b :: r))) := by
  cases k with
  | true =>
    refine (pe_andT (pos := pos) ha hb).imp fun st H Q ⟨r, F, S, h, hF, hs⟩ => ?_
    unfold evB at hs
    refine bindG h hF hs fun r1 S1 H1 x xv e1 h1 hF1 qx hs => ?_
    split at hs
    · rename_i t e
      rw [ok.K]
      refine ⟨t, truth_of h1 qx e, ?_⟩
      cases t with
      | true => exact iteT ⟨r1, F, S1, h1, hF1, hs⟩
      | false => exact iteF (hs.fin h1 qx)
    · exact hs.elim
  | false =>
    refine (pe_orT (pos := pos) ha hb).imp fun st H Q ⟨r, F, S, h, hF, hs⟩ => ?_
    unfold evB at hs
    refine bindG h hF hs fun r1 S1 H1 x xv e1 h1 hF1 qx hs => ?_
    split at hs
    · rename_i t e
      rw [ok.K]
      refine ⟨t, truth_of h1 qx e, ?_⟩
      cases t with
      | true => exact iteT (hs.fin h1 qx)
      | false => exact iteF ⟨r1, F, S1, h1, hF1, hs⟩
    · exact hs.elim
/-- a list of tests under and, or -/
theorem tb_one {k : Bool} {a : CE} {ea : Expr} {pos : Pos} {C : Cxt} (ha : ST R W rs X ea (fun F S => tst (ev C rs a F S))) : PW X (.BoolOp (bopOf k) [ea] pos) (tG R W rs eqB fun F S => tst (evB C rs k [a] F S)) := by
  have e : (fun F S => tst (evB C rs k [a] F S)) = fun F S => tst (ev C rs a F S) := by
    funext F S
    simp only [evB]
  rw [e]
  cases k with
  | true => exact pw_and1 ha
  | false => exact pw_or1 ha
theorem tst_ok {x : D} {S : Sto} {t : Bool} (e : truth S x = some t) : tst (.ok x S) = .ok t S := by
  simp only [tst, Out.bind, e]
theorem tb_cons {k : Bool} {a b : CE} {r : List CE} {ea eb : Expr} {er : List Expr} {pos : Pos} {C : Cxt} (ha : ST R W rs X ea (fun F S => tst (ev C rs a F S))) (hb : PW X (.BoolOp (bopOf k) (eb :: er) pos) (tG R W rs eqB fun F S => tst (evB C rs k (b :: r) F S))) :
    PW X (.BoolOp (bopOf k) (ea :: eb :: er) pos) (tG R W rs eqB fun F S => tst (evB C rs k (a :: b :: r) F S)) := by
  have key : ∀ (st : L2.St) (H : Hp) (Q : Bool → Hp → Prop) (r0 : List Addr) (F : Fr) (S : Sto), RS R rs r0 S H → RF R r0 H F st → Sat R W rs st r0 H eqB (tst (evB C rs k (a :: b :: r) F S)) Q →
      tG R W rs eqB (fun F S => tst (ev C rs a F S)) st H fun t H1 => if t = k then tG R W rs eqB (fun F S => tst (evB C rs k (b :: r) F S)) st H1 Q else Q t H1 := by
    intro st H Q r0 F S h hF hs
    refine ⟨r0, F, S, h, hF, ?_⟩
    cases ea' : ev C rs a F S with
    | bad => simp only [evB, ea', tst, Out.bind] at hs; exact hs.elim
    | exc x S1 => simp only [evB, ea', tst, Out.bind] at hs ⊢; exact hs
    | ok x S1 =>
      simp only [evB, ea', tst, Out.bind] at hs ⊢
      cases e : truth S1 x with
      | none => rw [e] at hs; exact hs.elim
      | some t =>
        rw [e] at hs
        dsimp only at hs ⊢
        intro r1 H1 v e1 h1 q
        have q : t = v := q
        subst q
        have hF1 := hF.ext e1
        have hs := Sat.shift e1 hs
        by_cases hk : t = k
        · rw [if_pos hk]
          subst hk
          rw [beq_self_eq_true, if_pos rfl] at hs
          exact ⟨r1, F, S1, h1, hF1, hs⟩
        · rw [if_neg hk]
          rw [if_neg (by simpa using hk)] at hs
          simp only [e] at hs
          exact Sat.fin (a := t) hs h1 rfl
  cases k with
  | true =>
    refine ⟨fun wh pins s st H Q I ⟨r0, F, S, h, hF, hs⟩ => ?_⟩
    refine (pw_and (pos := pos) ha hb).run wh pins s st H Q I ?_
    obtain ⟨r1, F1, S1, k1, k2, k3⟩ := key st H Q r0 F S h hF hs
    refine ⟨r1, F1, S1, k1, k2, ?_⟩
    have ee : (fun (t : Bool) H1 => if t = true then tG R W rs eqB (fun F S => tst (evB C rs true (b :: r) F S)) st H1 Q else Q t H1) = fun t H1 => if t = true then tG R W rs eqB (fun F S => tst (evB C rs true (b :: r) F S)) st H1 Q else Q false H1 := by
      funext t H1
      cases t <;> rfl
    rw [← ee]
    exact k3
  | false =>
    refine ⟨fun wh pins s st H Q I ⟨r0, F, S, h, hF, hs⟩ => ?_⟩
    refine (pw_or (pos := pos) ha hb).run wh pins s st H Q I ?_
    obtain ⟨r1, F1, S1, k1, k2, k3⟩ := key st H Q r0 F S h hF hs
    refine ⟨r1, F1, S1, k1, k2, ?_⟩
    have ee : (fun (t : Bool) H1 => if t = false then tG R W rs eqB (fun F S => tst (evB C rs false (b :: r) F S)) st H1 Q else Q t H1) = fun t H1 => if t = true then Q true H1 else tG R W rs eqB (fun F S => tst (evB C rs false (b :: r) F S)) st H1 Q := by
      funext t H1
      cases t <;> rfl
    rw [← ee]
    exact k3

/-! ### a if c else b -/
theorem ite_tst {cc a b : CE} {C : Cxt} {F : Fr} {S : Sto} : ev C rs (.ite cc a b) F S = (tst (ev C rs cc F S)).bind fun t S1 => if t then ev C rs a F S1 else ev C rs b F S1 := by
  simp only [ev, tst, Out.bind_assoc]
  congr 1
  funext x S1
  cases truth S1 x with
  | none => rfl
  | some t => cases t <;> rfl
theorem se_ite {cc a b : CE} {ec ea eb : Expr} {pos : Pos} {C : Cxt} (hc : ST R W rs X ec (fun F S => tst (ev C rs cc F S))) (ha : SE R W rs X ea (ev C rs a)) (hb : SE R W rs X eb (ev C rs b)) : SE R W rs X (.IfExp ec ea eb pos) (ev C rs (.ite cc a b)) := by
  refine (pe_ifExp (pos := pos) hc ha hb).imp fun st H Q ⟨r, F, S, h, hF, hs⟩ => ?_
  rw [ite_tst] at hs
  refine bindG h hF hs fun r1 S1 H1 t tv e1 h1 hF1 qt hs => ?_
  have qt : t = tv := qt
  subst qt
  cases t with
  | true => exact iteT ⟨r1, F, S1, h1, hF1, hs⟩
  | false => exact iteF ⟨r1, F, S1, h1, hF1, hs⟩
theorem pt_ifExp {cc a b : Expr} {pos : Pos} {tA ta tb : TT} (hc : PT X cc tA) (ha : PT X a ta) (hb : PT X b tb) : PT X (.IfExp cc a b pos) (fun st H Q => tA st H fun t H1 => if t = true then ta st H1 Q else tb st H1 Q) := by
  refine ⟨fun pins s σ H Q I h => ?_⟩
  refine isTrue_IfExp (thn (hc.run pins s σ H _ I h) fun d s1 ⟨H1, I1, q1⟩ => ?_)
  cases d with
  | true => exact ha.run pins s1 σ H1 Q I1 q1
  | false => exact hb.run pins s1 σ H1 Q I1 q1
theorem st_ite {cc a b : CE} {ec ea eb : Expr} {pos : Pos} {C : Cxt} (hc : ST R W rs X ec (fun F S => tst (ev C rs cc F S))) (ha : ST R W rs X ea (fun F S => tst (ev C rs a F S))) (hb : ST R W rs X eb (fun F S => tst (ev C rs b F S))) : ST R W rs X (.IfExp ec ea eb pos) (fun F S => tst (ev C rs (.ite cc a b) F S)) := by
  refine (pt_ifExp (pos := pos) hc ha hb).imp fun st H Q ⟨r, F, S, h, hF, hs⟩ => ?_
  have e : tst (ev C rs (.ite cc a b) F S) = (tst (ev C rs cc F S)).bind fun t S1 => if t then tst (ev C rs a F S1) else tst (ev C rs b F S1) := by
    rw [ite_tst]
    show Out.bind _ _ = _
    rw [Out.bind_assoc]
    congr 1
    funext t S1
    cases t <;> rfl
  have hs : Sat R W rs st r H eqB (tst (ev C rs (.ite cc a b) F S)) Q := hs
  rw [e] at hs
  refine bindG h hF hs fun r1 S1 H1 t tv e1 h1 hF1 qt hs => ?_
  have qt : t = tv := qt
  subst qt
  cases t with
  | true => exact iteT ⟨r1, F, S1, h1, hF1, hs⟩
  | false => exact iteF ⟨r1, F, S1, h1, hF1, hs⟩

/-! ### argument lists, displays -/
def SA (R : RP) (W : WX) (rs : List Nat) (X : Cx) (es : List Expr) (g : Fr → Sto → Out (List D)) : Prop := PA X es (tG R W rs (Reps R) g)
theorem sa_nil {C : Cxt} : SA R W rs X [] (evL C rs []) := by
  refine pa_nil.imp fun st H Q ⟨r, F, S, h, hF, hs⟩ => ?_
  simp only [evL] at hs
  exact Sat.fin hs h .nil
theorem sa_cons {a : CE} {as : List CE} {ea : Expr} {es : List Expr} {C : Cxt} (ha : SE R W rs X ea (ev C rs a)) (hs : SA R W rs X es (evL C rs as)) (ns : noStar ea = true) : SA R W rs X (ea :: es) (evL C rs (a :: as)) := by
  refine (pa_cons ha hs (star_of ns)).imp fun st H Q ⟨r, F, S, h, hF, hs⟩ => ?_
  simp only [evL] at hs
  refine bindG h hF hs fun r1 S1 H1 x xv e1 h1 hF1 qx hs => bindG h1 hF1 hs fun r2 S2 H2 xs vs e2 h2 hF2 qs hs => ?_
  exact Sat.fin hs h2 (.cons (qx.ext e2) qs)
def SK (R : RP) (W : WX) (rs : List Nat) (X : Cx) (ks : List Keyword) (g : Fr → Sto → Out (List D)) : Prop := PK X ks (tG R W rs (Reps R) g)
theorem PK.imp {kws : List Keyword} {t t' : TA} (h : PK X kws t) (k : ∀ st H Q, t' st H Q → t st H Q) : PK X kws t' := ⟨fun pos pins s st H Q I q => h.run pos pins s st H Q I (k _ _ _ q)⟩
theorem sk_nil {C : Cxt} : SK R W rs X [] (evL C rs []) := by
  refine PK.imp pk_nil fun st H Q ⟨r, F, S, h, hF, hs⟩ => ?_
  simp only [evL] at hs
  exact Sat.fin hs h .nil
theorem sk_cons {a : CE} {as : List CE} {nm : Option Str} {ea : Expr} {kp : Pos} {ks : List Keyword} {C : Cxt} (ha : SE R W rs X ea (ev C rs a)) (hs : SK R W rs X ks (evL C rs as)) : SK R W rs X (⟨nm, ea, kp⟩ :: ks) (evL C rs (a :: as)) := by
  refine PK.imp (pk_cons ha hs) fun st H Q ⟨r, F, S, h, hF, hs⟩ => ?_
  simp only [evL] at hs
  refine bindG h hF hs fun r1 S1 H1 x xv e1 h1 hF1 qx hs => bindG h1 hF1 hs fun r2 S2 H2 xs vs e2 h2 hF2 qs hs => ?_
  exact Sat.fin hs h2 (.cons (qx.ext e2) qs)
theorem se_tup {as : List CE} {es : List Expr} {k : Nat} {pos : Pos} {C : Cxt} (hs : SA R W rs X es (evL C rs as)) : SE R W rs X (.Tuple es k pos) (ev C rs (.tup as)) := by
  refine (pe_tup (pos := pos) hs).imp fun st H Q ⟨r, F, S, h, hF, hs⟩ => ?_
  simp only [ev] at hs
  refine bindG h hF hs fun r1 S1 H1 xs vs e1 h1 hF1 qs hs => ?_
  obtain ⟨hl, hs⟩ := okIf_sat hs
  exact ⟨by rw [← qs.length, ← line_eq]; exact of_decide_eq_true hl, hs.newT h1 qs⟩
theorem se_lst {mu : Bool} {as : List CE} {es : List Expr} {pos : Pos} {C : Cxt} (hs : SA R W rs X es (evL C rs as)) : SE R W rs X (.List es pos) (ev C rs (.lst mu as)) := by
  refine (pe_lst (pos := pos) hs).imp fun st H Q ⟨r, F, S, h, hF, hs⟩ => ?_
  simp only [ev] at hs
  refine bindG h hF hs fun r1 S1 H1 xs vs e1 h1 hF1 qs hs => ?_
  exact hs.mkL h1 qs
theorem se_idx {a b : CE} {ea eb : Expr} {pos : Pos} {C : Cxt} (ok : XOk R N c X) (ha : SE R W rs X ea (ev C rs a)) (hb : SE R W rs X eb (ev C rs b)) (ns : noSlice eb = true) : SE R W rs X (.Subscript ea eb pos) (ev C rs (.idx a b)) := by
  refine (pe_ix (pos := pos) ix_r ha hb (plainIx_of ns)).imp fun st H Q ⟨r, F, S, h, hF, hs⟩ => ?_
  simp only [ev] at hs
  refine bindG h hF hs fun r1 S1 H1 x xv e1 h1 hF1 qx hs => bindG h1 hF1 hs fun r2 S2 H2 y yv e2 h2 hF2 qy hs => ?_
  rw [ok.K]
  exact ix_v h2 (qx.ext e2) qy hs
/-- a slice's part -/
def SO (R : RP) (W : WX) (rs : List Nat) (X : Cx) (e : Option Expr) (g : Fr → Sto → Out (Option Int)) : Prop := PO X e (tG R W rs (fun _ _ a b => a = b) g)
theorem PO.imp {e : Option Expr} {t t' : TO} (h : PO X e t) (k : ∀ st H Q, t' st H Q → t st H Q) : PO X e t' := ⟨fun pins s st H Q I q => h.run pins s st H Q I (k _ _ _ q)⟩
theorem so_none {C : Cxt} : SO R W rs X none (evO C rs []) := by
  refine PO.imp po_none fun st H Q ⟨r, F, S, h, hF, hs⟩ => ?_
  simp only [evO] at hs
  exact Sat.fin (x := none) hs h rfl
theorem so_some {a : CE} {as : List CE} {ea : Expr} {C : Cxt} (ha : SE R W rs X ea (ev C rs a)) : SO R W rs X (some ea) (evO C rs (a :: as)) := by
  refine PO.imp (po_some ha) fun st H Q ⟨r, F, S, h, hF, hs⟩ => ?_
  simp only [evO] at hs
  refine bindG h hF hs fun r1 S1 H1 x xv e1 h1 hF1 qx hs => ?_
  split at hs
  · rename_i i
    cases qx
    exact ⟨i, rfl, Sat.fin (x := some i) hs h1 rfl⟩
  · exact hs.elim
theorem se_sli {a : CE} {lo hi : List CE} {ea : Expr} {el eh : Option Expr} {pos p2 : Pos} {C : Cxt} (ok : XOk R N c X) (ha : SE R W rs X ea (ev C rs a)) (hl : SO R W rs X el (evO C rs lo)) (hh : SO R W rs X eh (evO C rs hi)) : SE R W rs X (.Subscript ea (.Slice el eh none p2) pos) (ev C rs (.sli a lo hi)) := by
  refine (pe_slice (pos := pos) (p2 := p2) sl_r ha hl hh).imp fun st H Q ⟨r, F, S, h, hF, hs⟩ => ?_
  simp only [ev] at hs
  refine bindG h hF hs fun r1 S1 H1 x xv e1 h1 hF1 qx hs => bindG h1 hF1 hs fun r2 S2 H2 l lv e2 h2 hF2 ql hs => bindG h2 hF2 hs fun r3 S3 H3 u uv e3 h3 hF3 qu hs => ?_
  have ql : l = lv := ql
  have qu : u = uv := qu
  subst ql; subst qu
  rw [ok.K]
  exact sl_v h3 ((qx.ext e2).ext e3) hs
theorem se_bmeth {b : Bm} {o : CE} {as : List CE} {eo ea : Expr} {es : List Expr} {apos pos : Pos} {C : Cxt} (ok : XOk R N c X) (ho : SE R W rs X eo (ev C rs o)) (hs : SA R W rs X (ea :: es) (evL C rs as)) (nsup : noSuper eo = true) (hl : (apos.endLine == pos.line) = true)
    (hst : noStar ea = true) (hst2 : es.all noStar = true) (hlen : es.length < 20) (pa : PlainAttrs (bmT b)) (slot : Slot (bmT b) (bmN b) (bmId b)) (hty : typeOf (.builtin (bmId b)) = pure (.type "method_descriptor")) :
    SE R W rs X (.Call (.Attribute eo (bmN b) apos) (ea :: es) [] pos) (ev C rs (.bmeth b o as)) := by
  have all : ∀ es : List Expr, es.all noStar = true → (backTo pos (starEach es X.env)).any (·.1) = false ∧ (backTo pos (starEach es X.env)).all (fun x => !x.1) = true := by
    intro es
    induction es with
    | nil => intro _; exact ⟨rfl, rfl⟩
    | cons e r ih =>
      intro h
      rw [List.all_cons, Bool.and_eq_true] at h
      rw [star_of h.1]
      obtain ⟨i1, i2⟩ := ih h.2
      unfold backTo at i1 i2 ⊢
      rw [List.map_cons, List.any_cons, List.all_cons, i1, i2]
      exact ⟨rfl, rfl⟩
  have hall : (ea :: es).all noStar = true := by rw [List.all_cons, hst, hst2]; rfl
  refine (pe_bm pa slot hty (bm_r b) ho hs (super_of nsup _) ?_ hl (star_of hst) (all es hst2).1).imp fun st H Q ⟨r, F, S, h, hF, hs⟩ => ?_
  · rw [(all (ea :: es) hall).2]
    simp only [List.length_cons, Bool.true_and]
    have : (backToKw pos (keywordEach [] X.env)).all (fun x => x.1.isSome) = true := rfl
    rw [this]
    simp
    omega
  · simp only [ev] at hs
    refine bindG h hF hs fun r1 S1 H1 x xv e1 h1 hF1 qx hs => ?_
    split at hs
    · rename_i bk
      rw [ok.K]
      refine ⟨bm_ty b h1 qx bk, ?_⟩
      refine bindG h1 hF1 hs fun r2 S2 H2 xs vs e2 h2 hF2 qs hs => ?_
      exact bm_v b h2 (qx.ext e2) qs hs
    · exact hs.elim
end
end OM
set_option Elab.async false
set_option linter.all false
set_option maxRecDepth 100000
set_option maxHeartbeats 1000000
/-! OmExpr3: constants, globals, built-in calls, isinstance, calls of defs; what a law's world is. -/
namespace OM
open PySem PySem.Spec PyProof.Rows L2

/-- what a law's text is, by ids -/
structure Sta where
  gn : List Str
  an : List Str
  fd : Nat → Option FD
  gf : Nat → Option Str
  cn : Nat → Option Str
  shp : Nat → List (Nat × List Nat)
  mds : Nat → List Nat
  ini : Nat → Option Nat
  smt : Nat → Nat → Option Nat
  bl : List Str
  /-- the def that tells why -/
  why : Option Str
/-- the i-th name; beyond the list a text that stands for no name -/
def nmAt (l : List Str) (i : Nat) : Str := l.getD i ⟨#[2000000 + i]⟩
/-- C.m is a static method: its record at p, its def at g -/
structure SMet (K : PySem.W.Frag) (C : Addr) (m : Str) (g : Addr) : Prop where
  rd : PySem.W.readsIn K C (.type "type") = true
  ga : PySem.W.specialIn K (.ref C) "__getattribute__" = some (some (.builtin "type.__getattribute__"))
  at_ : ∃ p, PySem.W.findCls K (.ref C) (.type "type") m = some (.get (.builtin "staticmethod.__get__") (.ref p) .none (.ref C)) ∧ ∃ rest, PySem.W.recIn K p "staticmethod" = some (.ref g :: rest)
/-- what the def that tells why makes of the lambda's reading -/
def TTwhy (R : RP) (C : Cxt) : (XK → Hp → VK → Prop) → Hp → VK → Prop := fun tl H Q =>
  tl (fun cls dd H' => ∃ hid r S x rs, RS (R.h hid) rs r S H' ∧ RepX (R.h hid) r H' x cls dd ∧ Sat (R.h hid) (fun _ _ _ _ => False) rs [] r H' (Rep (R.h hid)) (C.why x rs S) Q) H (fun v H' => [V.str (mkS valueT), v].length ≤ sizeLine ∧ ∀ p, H' p = none → Q (.ref p) (upd H' p (.tup [.str (mkS valueT), v])))
/-- the def at g, named x, tells why -/
structure WhyOk (R : RP) (C : Cxt) (P : Program) (w : World) (K : PySem.W.Frag) (mg : Str → Option Value) (base : Heap) (x : Str) (g : Addr) : Prop where
  kp : PySem.W.keepIn K (.ref g) = true
  it : ∃ (a : Str) (pg : Arguments) (bg : List Stmt) (sg : Scope) (dV kV doc pm cdv ct oc : Value) (an od : Option Addr) (osl : Array (Option Value)) (Ng : List Str),
    K.lookup g = some ⟨oc, od, .func (PySem.W.fnOf x x pg bg sg dV kV doc pm an cdv ct), osl⟩ ∧ PySem.W.codeIn K cdv x = true ∧ L2.Binds K (PySem.W.fnOf x x pg bg sg dV kV doc pm an cdv ct) [a] [] ∧ FnScope Ng [a] sg ∧ Ng[0]? = some a ∧ Vis sg a ∧
    (x == ("__debug__" : Str)) = false ∧ (a == ("__debug__" : Str)) = false ∧ (a == ("__classdict__" : Str)) = false ∧
    ∀ (X : Cx) (q : Str), X.prog = P → X.w = w → X.K = K → X.mg = mg → X.base = base → Room (C.lvl + 3) X.A → LamX.GivesTo X Ng x sg g cdv bg a q (TTwhy R C)
structure Wld (R : RP) (T : Sta) (C : Cxt) (P : Program) (w : World) (K : PySem.W.Frag) (mg : Str → Option Value) (base : Heap) : Prop where
  an : R.an = nmAt T.an
  ani : ∀ x y, R.an x = R.an y → x = y
  call0 : ∀ f F, T.fd f = some F → ∃ fd dvs dw, PySem.W.keepIn K (.ref (R.fadr f)) = true ∧ FnOk P w K mg base (L2.CX P w) C.lvl (R.fadr f) fd (F.ps.map (nmAt T.an)) (spOf R F.ps.length (C.call f)) ∧
    (∀ hid r H, Reps (R.h hid) r H F.dv dvs) ∧ Vals dvs dw ∧ ∀ q ∈ T.shp f, Shape K (nmAt T.an) fd F.ps dw q.1 q.2
  gf : ∀ f x, T.gf f = some x → mg x = some (.ref (R.fadr f))
  cn : ∀ c x, T.cn c = some x → mg x = some (.ref (R.cadr c))
  mth : ∀ c m g, C.cl.mth c m = some g → (∃ F, T.fd g = some F) ∧ Cls K (R.cadr c) ∧ Meth K (R.cadr c) (R.an m) (R.fadr g)
  mds : ∀ c m g, C.cl.mth c m = some g → g ∈ T.mds m
  iniE : ∀ c, C.cl.ini c = T.ini c
  smt : ∀ c m g, C.cl.smt c m = some g → (∃ F, T.fd g = some F) ∧ SMet K (R.cadr c) (R.an m) (R.fadr g)
  smtE : ∀ c m, C.cl.smt c m = T.smt c m
  prp : ∀ c f g, C.cl.prp c f = some g → (∃ F, T.fd g = some F) ∧ (1, ([] : List Nat)) ∈ T.shp g ∧ Cls K (R.cadr c) ∧ ∃ p, PropOf K (R.cadr c) (R.an f) p (R.fadr g)
  con : ∀ c f d, C.cl.con c f = some d → Cls K (R.cadr c) ∧ ∃ v u, Con K (R.cadr c) (R.an f) v u ∧ ∀ hid r H, Rep (R.h hid) r H d v
  fok : ∀ c f, C.cl.fok c f = true → Cls K (R.cadr c) ∧ NoAttr K (R.cadr c) (R.an f)
  ini : ∀ c g, C.cl.ini c = some g → (∃ F, T.fd g = some F) ∧ Mk K (R.cadr c) (R.fadr g)
  pars : ∀ f, C.pars f = (T.fd f).map fun F => (F.ps, F.dv)
  glob : ∀ g d, C.glob g = some d → ∃ u v, mg (nmAt T.gn g) = some u ∧ RelV v u ∧ ∀ hid r H, Rep (R.h hid) r H d v
  bl : ∀ x ∈ T.bl, mg x = none
  exn : ∀ c tag tx fld, C.cl.exn c = some (tag, tx, fld) → okS tx = true ∧ XInfo P K (R.cadr c) (R.an tag) (mkS tx) (fld.map R.an)
  xok : ∀ c f, C.cl.xok c f = true → XfC K (R.cadr c) ∧ PySem.W.findIn K (.ref (R.cadr c)) (R.an f) = some none
  why : ∀ x, T.why = some x → ∃ g, mg x = some (.ref g) ∧ WhyOk R C P w K mg base x g
structure WldX (R : RP) (T : Sta) (c : Scp) (C : Cxt) (X : Cx) extends Wld R T C X.prog X.w X.K X.mg X.base where
  room : ∀ f F, T.fd f = some F → Room (C.lvl + 1) X.A
  lamr : c.lam = true → Room (C.lvl + 3) X.A ∧ ∃ cd Pt, X.env.code = .ref cd ∧ LamX.TabB X.base X.mg cd Pt ∧ (Pt, X.env.qual ++ "<lambda>") ∈ R.tabs ∧ ∀ p ∈ R.tabs, p.1 = Pt → p.2 = X.env.qual ++ "<lambda>"
theorem WldX.call {R : RP} {T : Sta} {c : Scp} {C : Cxt} {X : Cx} (wd : WldX R T c C X) : ∀ f F, T.fd f = some F → ∃ k fd dvs dw, PySem.W.keepIn X.K (.ref (R.fadr f)) = true ∧ FnOk X.prog X.w X.K X.mg X.base (L2.CX X.prog X.w) k (R.fadr f) fd (F.ps.map (nmAt T.an)) (spOf R F.ps.length (C.call f)) ∧ Room (k + 1) X.A ∧
    (∀ hid r H, Reps (R.h hid) r H F.dv dvs) ∧ Vals dvs dw ∧ ∀ q ∈ T.shp f, Shape X.K (nmAt T.an) fd F.ps dw q.1 q.2 := fun f F e => by
  obtain ⟨fd, dvs, dw, h1, h2, h3, h4, h5⟩ := wd.call0 f F e
  exact ⟨C.lvl, fd, dvs, dw, h1, h2, wd.room f F e, h3, h4, h5⟩

def biN : Bi → String
  | .len => "len"
  | .all => "all"
  | .any => "any"
  | .int => "int"
  | .str => "str"
  | .bool => "bool"
  | .list => "list"
  | .tuple => "tuple"
  | .sorted => "sorted"
  | .sum => "sum"
  | .max => "max"
  | .min => "min"
  | .repr => "repr"
theorem bi_boot : ∀ b : Bi, bootBuiltins (biN b) = some (biV b) := by
  intro b
  cases b <;> decide +kernel
theorem ty_boot : ∀ t : Fin 7, t.val ≠ 0 → bootBuiltins (tyN t.val) = some (.type (tyN t.val)) := by decide +kernel
theorem isi_boot : bootBuiltins "isinstance" = some (.builtin "isinstance") := by decide +kernel
theorem noDbg_iff {x : Str} (h : noDbg x = true) : (x == ("__debug__" : Str)) = false ∧ (x == ("__classdict__" : Str)) = false := by
  unfold noDbg at h
  simp only [Bool.and_eq_true, Bool.not_eq_true'] at h
  exact h
section
variable {R : RP} {W : WX} {rs : List Nat} {X : Cx} {N : List Str} {c : Scp}
theorem gl_of (ok : XOk R N c X) {x : Str} (h : chkGl c.sc x = true) : Gl X x ∧ (x == ("__debug__" : Str)) = false := by
  unfold chkGl at h
  rw [Bool.and_eq_true] at h
  refine ⟨?_, (noDbg_iff h.2).1⟩
  show X.env.scope.names.lookup x = _
  rw [ok.sc]
  exact isNm_iff h.1
/-- constants -/
def cstOk : D → Expr → Bool
  | .non, .Constant .none _ _ => true
  | .bl b, .Constant (.bool b') _ _ => b == b'
  | .int i, .Constant (.int j) _ _ => decide (i = j)
  | .str x, .Constant (.str y) _ _ => decide (mkS x = y) && okS x
  | _, _ => false
theorem se_cst {d : D} {e : Expr} {C : Cxt} (h : cstOk d e = true) : SE R W rs X e (ev C rs (.cst d)) := by
  unfold cstOk at h
  split at h
  · refine pe_non.imp fun st H Q ⟨r, F, S, h, hF, hs⟩ => ?_
    simp only [ev] at hs
    exact hs.fin h .non
  · have h := eq_of_beq h
    subst h
    refine pe_bl.imp fun st H Q ⟨r, F, S, h, hF, hs⟩ => ?_
    simp only [ev] at hs
    exact hs.fin h (.bl _)
  · have h := of_decide_eq_true h
    subst h
    refine pe_int.imp fun st H Q ⟨r, F, S, h, hF, hs⟩ => ?_
    simp only [ev] at hs
    exact hs.fin h (.int _)
  · rw [Bool.and_eq_true] at h
    obtain ⟨h1, h2⟩ := h
    have h1 := of_decide_eq_true h1
    subst h1
    refine pe_str.imp fun st H Q ⟨r, F, S, h, hF, hs⟩ => ?_
    simp only [ev] at hs
    exact hs.fin h (.str h2)
  · cases h
theorem se_ty {k : Nat} {x : Str} {pos : Pos} {C : Cxt} {T : Sta} (ok : XOk R N c X) (wd : WldX R T c C X) (hk : k < 7) (h0 : k ≠ 0) (hx : x = (tyN k : Str)) (hg : chkGl c.sc x = true) (hb : x ∈ T.bl) : SE R W rs X (.Name x pos) (ev C rs (.cst (.ty k))) := by
  obtain ⟨g1, g2⟩ := gl_of ok hg
  have e := ty_boot ⟨k, hk⟩ h0
  refine (pe_bltn (pos := pos) (v := .ty (tyN k)) g1 (wd.bl x hb) (by rw [hx]; exact e) rfl (fun z => ?_) g2).imp fun st H Q ⟨r, F, S, h, hF, hs⟩ => ?_
  · have hn : ∀ t : Fin 7, ((tyN t.val : Str)) ≠ ("__name__" : Str) := by decide +kernel
    exact hn ⟨k, hk⟩ (hx.symm.trans z)
  · simp only [ev] at hs
    exact hs.fin h (.ty _)
theorem se_glo {g : Nat} {x : Str} {pos : Pos} {C : Cxt} {T : Sta} (ok : XOk R N c X) (wd : WldX R T c C X) (hx : nmAt T.gn g = x) (hg : chkGl c.sc x = true) : SE R W rs X (.Name x pos) (ev C rs (.glo g)) := by
  obtain ⟨g1, g2⟩ := gl_of ok hg
  refine ⟨fun pins s st H Q I ⟨r, F, S, h, hF, hs⟩ => ?_⟩
  simp only [ev] at hs
  split at hs
  · rename_i d e
    obtain ⟨u, v, m, rv, q⟩ := wd.glob g d e
    have q' : Rep R r H d v := q R.hid r H
    exact (pe_glob (pos := pos) g1 (by rw [← hx]; exact m) rv g2).run pins s st H Q I (hs.fin h q')
  · exact hs.elim

/-! ### built-in functions -/
theorem se_bcall {mu : Bool} {b : Bi} {as : List CE} {ea : Expr} {es : List Expr} {x : Str} {p pos : Pos} {C : Cxt} {T : Sta} (ok : XOk R N c X) (wd : WldX R T c C X) (hs : SA R W rs X (ea :: es) (evL C rs as)) (hx : x = (biN b : Str)) (hg : chkGl c.sc x = true) (hb : x ∈ T.bl)
    (hst : noStar ea = true) (hst2 : es.all noStar = true) (nh : c.hot = false) : SE R W rs X (.Call (.Name x p) (ea :: es) [] pos) (ev C rs (.bcall mu b as)) := by
  obtain ⟨g1, g2⟩ := gl_of ok hg
  have hn : x ≠ ("__name__" : Str) := by
    rw [hx]
    cases b <;> decide +kernel
  have hpl : (backTo pos (starEach es X.env)).any (·.1) = false := by
    clear hs
    induction es with
    | nil => rfl
    | cons e r ih =>
      rw [List.all_cons, Bool.and_eq_true] at hst2
      rw [star_of hst2.1]
      have i1 := ih hst2.2
      unfold backTo at i1 ⊢
      rw [List.map_cons, List.any_cons, i1]
      rfl
  have base : PE X (.Call (.Name x p) (ea :: es) [] pos) (tCB (rBi X.K b) (tG R W rs (Reps R) (evL C rs as))) := by
    have hc := bi_r (X := X) (ok.calm nh) b
    have hv : bootBuiltins x = some (biV b) := by rw [hx]; exact bi_boot b
    cases b <;> first
      | exact pe_callB hc g1 (wd.bl x hb) hv hs hn g2 (star_of hst) hpl
      | exact pe_callTy hc g1 (wd.bl x hb) hv hs hn g2 (star_of hst) hpl
  refine base.imp fun st H Q ⟨r, F, S, h, hF, hs⟩ => ?_
  simp only [ev] at hs
  refine bindG h hF hs fun r1 S1 H1 xs vs e1 h1 hF1 qs hs => ?_
  rw [ok.K]
  exact bi_v mu b h1 qs hs

theorem evL_len {C : Cxt} {F : Fr} : ∀ {as : List CE} {S S' : Sto} {xs : List D}, evL C rs as F S = .ok xs S' → xs.length = as.length
  | [], S, S', xs, e => by
    simp only [evL] at e
    cases e
    rfl
  | a :: as, S, S', xs, e => by
    simp only [evL] at e
    cases e1 : ev C rs a F S with
    | bad => rw [e1] at e; cases e
    | exc x S1 => rw [e1] at e; cases e
    | ok x S1 =>
      rw [e1] at e
      simp only [Out.bind] at e
      cases e2 : evL C rs as F S1 with
      | bad => rw [e2] at e; cases e
      | exc x S1 => rw [e2] at e; cases e
      | ok ys S2 =>
        rw [e2] at e
        cases e
        rw [List.length_cons, List.length_cons, evL_len e2]

/-! ### isinstance -/
theorem isInst_one {S : Sto} {x : D} {t : Nat} {b : Bool} (e : isInst S x [.ty t] = some b) : ∃ k, kindOf S x = some k ∧ t < 7 ∧ b = kindIn k t := by
  simp only [isInst] at e
  cases e1 : kindOf S x with
  | none => rw [e1] at e; cases e
  | some k =>
    rw [e1] at e
    dsimp only at e
    by_cases ht : t < 7
    · rw [if_pos ht] at e
      cases e
      exact ⟨k, rfl, ht, by rw [Bool.or_false]⟩
    · rw [if_neg ht] at e; cases e
theorem call2_pl {e1 e2 : Expr} {pos : Pos} (h2 : noStar e2 = true) : (backTo pos (starEach [e2] X.env)).any (·.1) = false := by
  rw [star_of h2]
  rfl
theorem se_isin1 {a t : CE} {ea et : Expr} {x : Str} {p pos : Pos} {C : Cxt} {T : Sta} (ok : XOk R N c X) (wd : WldX R T c C X) (ha : SE R W rs X ea (ev C rs a)) (ht : SE R W rs X et (ev C rs t)) (hx : x = ("isinstance" : Str)) (hg : chkGl c.sc x = true) (hb : x ∈ T.bl)
    (s1 : noStar ea = true) (s2 : noStar et = true) : SE R W rs X (.Call (.Name x p) [ea, et] [] pos) (ev C rs (.isin a [t])) := by
  obtain ⟨g1, g2⟩ := gl_of ok hg
  refine (pe_callB (pos := pos) (p := p) call_isi g1 (wd.bl x hb) (by rw [hx]; exact isi_boot) (pa_cons ha (pa_cons ht pa_nil (star_of s2)) (star_of s1)) (by rw [hx]; decide +kernel) g2 (star_of s1) (call2_pl (e1 := ea) s2)).imp fun st H Q ⟨r, F, S, h, hF, hs⟩ => ?_
  simp only [ev, evL, Out.bind_assoc] at hs
  refine bindG h hF hs fun r1 S1 H1 y yv e1 h1 hF1 qy hs => bindG h1 hF1 hs fun r2 S2 H2 z zv e2 h2 hF2 qz hs => ?_
  simp only [Out.bind] at hs
  split at hs
  · rename_i b e
    cases qz with
    | ty k =>
      obtain ⟨j, k1, k2, rfl⟩ := isInst_one e
      have qy2 := qy.ext e2
      obtain ⟨ty, hj⟩ := kind_of h2 qy2 k1
      refine ⟨yv, _, .type (tyN j), _, _, rfl, .ty _, ?_, ?_, hs.fin h2 (.bl _)⟩
      · rw [ok.K]; exact ty
      · rw [ok.K]; exact kit_k hj k2
    | _ => simp [isInst] at e
  · exact hs.elim
theorem se_isinT {a : CE} {ts : List CE} {ea : Expr} {ets : List Expr} {kk : Nat} {x : Str} {p pos p2 : Pos} {C : Cxt} {T : Sta} (ok : XOk R N c X) (wd : WldX R T c C X) (ha : SE R W rs X ea (ev C rs a)) (ht : SA R W rs X ets (evL C rs ts)) (hx : x = ("isinstance" : Str)) (hg : chkGl c.sc x = true) (hb : x ∈ T.bl)
    (s1 : noStar ea = true) (hne : ets.length ≠ 0) (hl : ets.length ≤ 100) (hle : ts.length = ets.length) : SE R W rs X (.Call (.Name x p) [ea, .Tuple ets kk p2] [] pos) (ev C rs (.isin a ts)) := by
  obtain ⟨g1, g2⟩ := gl_of ok hg
  refine (pe_callB (pos := pos) (p := p) call_isiT g1 (wd.bl x hb) (by rw [hx]; exact isi_boot) (pa_cons ha (pa_cons (pe_tup (x1 := kk) (pos := p2) ht) pa_nil rfl) (star_of s1)) (by rw [hx]; decide +kernel) g2 (star_of s1) rfl).imp fun st H Q ⟨r, F, S, h, hF, hs⟩ => ?_
  simp only [ev] at hs
  refine bindG h hF hs fun r1 S1 H1 y yv e1 h1 hF1 qy hs => bindE h1 hF1 hs fun r2 S2 H2 zs zv el e2 h2 hF2 qz hs => ?_
  split at hs
  · rename_i b e
    have qy2 := qy.ext e2
    obtain ⟨ws, pw, i⟩ := inst_of h2 qy2 qz e
    have hl1 : zs.length = ets.length := (evL_len el).trans hle
    have hzl : zv.length ≤ sizeLine := by
      rw [← qz.length, hl1, sizeLine_eq]
      omega
    refine ⟨hzl, fun q n => ?_⟩
    rcases i with i | ⟨k, hk, ty, ek, kt⟩
    · rw [i] at hl1
      exact absurd hl1.symm hne
    · refine ⟨yv, q, zv, .type (tyN k), ws, b, rfl, upd_same, pw, ?_, ?_, ?_⟩
      · rw [ok.K]
        exact (kind_of (h2.fresh n) (qy2.ext (.fresh n)) ek).1
      · rw [ok.K]; exact kt
      · exact hs _ _ _ (.fresh n) (h2.fresh n) (.bl _)
  · exact hs.elim

/-! ### calls of defs -/
theorem Reps.paired {r : List Addr} {H : Hp} : ∀ {ds : List D} {vs : List V}, Reps R r H ds vs → Paired (Rep R r H) ds vs
  | _, _, .nil => .nil
  | _, _, .cons h t => .cons h (Reps.paired t)
theorem Reps.of {r : List Addr} {H : Hp} : ∀ {ds : List D} {vs : List V}, Paired (Rep R r H) ds vs → Reps R r H ds vs
  | _, _, .nil => .nil
  | _, _, .cons h t => .cons h (Reps.of t)
def kwOk (an : List Str) : List Nat → List Keyword → Bool
  | [], [] => true
  | n :: ns, k :: ks => decide (k.arg = some (nmAt an n)) && kwOk an ns ks
  | _, _ => false
theorem kwOk_all {an : List Str} {env : Env} {pos : Pos} : ∀ {kn : List Nat} {ks : List Keyword}, kwOk an kn ks = true →
    (backToKw pos (keywordEach ks env)).all (·.1.isSome) = true ∧ (backToKw pos (keywordEach ks env)).filterMap (·.1) = kn.map (nmAt an) ∧ (backToKw pos (keywordEach ks env)).any (·.1.isNone) = false
  | [], [], _ => ⟨rfl, rfl, rfl⟩
  | [], _ :: _, h => by cases h
  | _ :: _, [], h => by cases h
  | n :: ns, ⟨a, v, kp⟩ :: ks, h => by
    unfold kwOk at h
    rw [Bool.and_eq_true] at h
    have h1 : a = some (nmAt an n) := of_decide_eq_true h.1
    subst h1
    obtain ⟨i1, i2, i3⟩ := kwOk_all (env := env) (pos := pos) h.2
    have e : backToKw pos (keywordEach (⟨some (nmAt an n), v, kp⟩ :: ks) env) = (some (nmAt an n), do let u ← eval v env; standAt pos; pure u) :: backToKw pos (keywordEach ks env) := rfl
    rw [e]
    refine ⟨?_, ?_, ?_⟩
    · rw [List.all_cons, i1]; rfl
    · rw [List.filterMap_cons, i2]; rfl
    · rw [List.any_cons, i3]; rfl
theorem star_pl {pos : Pos} : ∀ {es : List Expr}, es.all noStar = true → (backTo pos (starEach es X.env)).any (·.1) = false
  | [], _ => rfl
  | e :: r, h => by
    rw [List.all_cons, Bool.and_eq_true] at h
    rw [star_of h.1]
    have i1 := star_pl (pos := pos) h.2
    unfold backTo at i1 ⊢
    rw [List.map_cons, List.any_cons, i1]
    rfl
/-- what the call's reading asks, from the evaluator's call -/
theorem call_sat {kp : Bool} {f : Nat} {F : FD} {us : List V} {ks : List V} {dvs : List V} {kn : List Nat} {C : Cxt} {T : Sta} {st : L2.St} {r : List Addr} {S : Sto} {H : Hp} {xs zs : List D} {Q : VK} (wd : WldX R T c C X) (hf : T.fd f = some F)
    (hd : ∀ hid r H, Reps (R.h hid) r H F.dv dvs) (h : RS R rs r S H) (qx : Reps R r H xs us) (qz : Reps R r H zs ks)
    (hs : Sat R W rs st r H (Rep R) (match C.pars f with
      | some (ps, dv) => match bindA dv ps xs kn zs with
        | some vs => if kp then C.call f vs rs S else endCall S (C.call f vs (S.length :: rs) S)
        | none => .bad
      | none => .bad) Q) : ∃ ws, bindA dvs F.ps us kn ks = some ws ∧ spOf R F.ps.length (C.call f) ws H Q (fun c d H => W c d st H) := by
  rw [wd.pars f, hf] at hs
  simp only [Option.map_some] at hs
  split at hs
  · rename_i ds e
    obtain ⟨ws, e2, p⟩ := bindA_rel (Reps.paired (hd R.hid r H)) (Reps.paired qz) (Reps.paired qx) e
    refine ⟨ws, e2, ?_⟩
    have q : Reps R r H ds ws := Reps.of p
    cases kp with
    | true => exact ⟨R.hid, r, S, ds, rs, bindA_len e, h, q, hs⟩
    | false => exact ⟨R.hid, r, S, ds, S.length :: rs, bindA_len e, h.region, q, Sat.endCall h hs⟩
  · exact hs.elim
theorem se_call {kp : Bool} {f : Nat} {F : FD} {as ka : List CE} {kn : List Nat} {ea : Expr} {es : List Expr} {ks : List Keyword} {x : Str} {p pos : Pos} {C : Cxt} {T : Sta} (ok : XOk R N c X) (wd : WldX R T c C X) (tk : Takes X W) (hf : T.fd f = some F) (hx : T.gf f = some x) (hg : chkGl c.sc x = true)
    (ha : SA R W rs X (ea :: es) (evL C rs as)) (hk : SK R W rs X ks (evL C rs ka)) (hst : (ea :: es).all noStar = true) (hkw : kwOk T.an kn ks = true) (hsh : (as.length, kn) ∈ T.shp f) (hla : as.length = (ea :: es).length) (hlk : ka.length = kn.length) :
    SE R W rs X (.Call (.Name x p) (ea :: es) ks pos) (ev C rs (.call kp f as kn ka)) := by
  obtain ⟨g1, g2⟩ := gl_of ok hg
  obtain ⟨k, fd, dvs, dw, c2, c3, c4', c5, c6, c7⟩ := wd.call f F hf
  have c1 := wd.gf f x hx
  have c4 := c4'.mono (Nat.le_succ k)
  obtain ⟨w1, w2, w3⟩ := kwOk_all (env := X.env) (pos := pos) hkw
  have hst' := hst
  rw [List.all_cons, Bool.and_eq_true] at hst'
  refine (pe_callG (pos := pos) (p := p) (n := as.length) (kn := kn) c3 c4 tk g1 c1 c2 c6 (c7 _ hsh) ha hk w1 w2 g2 (star_of hst'.1) (by rw [star_pl hst, w3]; rfl)).imp fun st H Q ⟨r, F', S, h, hF, hs⟩ => ?_
  simp only [ev] at hs
  refine bindE h hF hs fun r1 S1 H1 xs us l1 e1 h1 hF1 qx hs => bindE h1 hF1 hs fun r2 S2 H2 zs kv l2 e2 h2 hF2 qz hs => ?_
  obtain ⟨ws, b1, b2⟩ := call_sat wd hf c5 h2 (qx.ext e2) qz hs
  exact ⟨by rw [← qx.length, evL_len l1], by rw [← qz.length, evL_len l2, hlk], ws, b1, b2⟩
theorem se_call0 {kp : Bool} {f : Nat} {F : FD} {ka : List CE} {kn : List Nat} {ks : List Keyword} {x : Str} {p pos : Pos} {C : Cxt} {T : Sta} (ok : XOk R N c X) (wd : WldX R T c C X) (tk : Takes X W) (hf : T.fd f = some F) (hx : T.gf f = some x) (hg : chkGl c.sc x = true)
    (hk : SK R W rs X ks (evL C rs ka)) (hkw : kwOk T.an kn ks = true) (hsh : (0, kn) ∈ T.shp f) (hlk : ka.length = kn.length) :
    SE R W rs X (.Call (.Name x p) [] ks pos) (ev C rs (.call kp f [] kn ka)) := by
  obtain ⟨g1, g2⟩ := gl_of ok hg
  obtain ⟨k, fd, dvs, dw, c2, c3, c4', c5, c6, c7⟩ := wd.call f F hf
  have c1 := wd.gf f x hx
  have c4 := c4'.mono (Nat.le_succ k)
  obtain ⟨w1, w2, w3⟩ := kwOk_all (env := X.env) (pos := pos) hkw
  refine (pe_callG0 (pos := pos) (p := p) (kn := kn) c3 c4 tk g1 c1 c2 c6 (c7 _ hsh) hk w1 w2 g2 (by rw [w3]; rfl)).imp fun st H Q ⟨r, F', S, h, hF, hs⟩ => ?_
  simp only [ev, evL, Out.bind] at hs
  refine bindE h hF hs fun r2 S2 H2 zs kv l2 e2 h2 hF2 qz hs => ?_
  obtain ⟨ws, b1, b2⟩ := call_sat wd hf c5 h2 .nil qz hs
  exact ⟨rfl, by rw [← qz.length, evL_len l2, hlk], ws, b1, b2⟩
end
end OM
set_option Elab.async false
set_option linter.all false
set_option maxRecDepth 100000
set_option maxHeartbeats 1000000
/-! OmCls: instances: attributes, methods, making. -/
namespace OM
open PySem PySem.Spec PyProof.Rows L2

section
variable {R : RP} {W : WX} {rs : List Nat} {X : Cx} {N : List Str} {c : Scp}
/-- an instance as it stands -/
theorem obj_at {r : List Addr} {S : Sto} {H : Hp} {d : D} {v : V} {k : Nat} {ns : List Nat} {vs : List D} (h : RS R rs r S H) (q : Rep R r H d v) (e : objOf S d = some (k, ns, vs)) : ∃ a dx fs, v = .ref a ∧ H a = some (.ins (R.cadr k) dx fs) ∧ fs.map (·.1) = ns.map R.an ∧ Reps R r H vs (fs.map (·.2)) := by
  cases q with
  | obj x f m g => cases e; exact ⟨_, _, _, rfl, x, m, g⟩
  | @ref n a z =>
    obtain ⟨c', o, e1, e2, e3⟩ := h.at z
    simp only [objOf, e1] at e
    cases e3 with
    | obj m g => cases e; exact ⟨_, _, _, rfl, e2, m, g⟩
    | lst _ => cases e
  | _ => cases e
theorem look_some {r : List Addr} {H : Hp} (ani : ∀ x y, R.an x = R.an y → x = y) {f : Nat} {d : D} : ∀ {ns : List Nat} {vs : List D} {fs : List (Str × V)}, fs.map (·.1) = ns.map R.an → Reps R r H vs (fs.map (·.2)) → lookN f ns vs = some d → ∃ v, fs.lookup (R.an f) = some v ∧ Rep R r H d v
  | [], _, _, _, _, e => by simp [lookN] at e
  | _ :: _, [], _, _, _, e => by simp [lookN] at e
  | n :: ns, d0 :: vs, [], m, _, e => by simp at m
  | n :: ns, d0 :: vs, (x, v) :: fs, m, g, e => by
    simp only [List.map_cons, List.cons.injEq] at m
    obtain ⟨rfl, m⟩ := m
    cases g with
    | cons q t =>
      unfold lookN at e
      rw [List.lookup_cons]
      by_cases hn : n = f
      · subst hn
        rw [if_pos (beq_self_eq_true _)] at e
        cases e
        simp only [beq_self_eq_true]
        exact ⟨v, rfl, q⟩
      · rw [if_neg (by simpa using hn)] at e
        have : (R.an f == R.an n) = false := by
          rw [beq_eq_false_iff_ne]
          exact fun z => hn (ani _ _ z).symm
        rw [this]
        exact look_some ani m t e
theorem look_none (ani : ∀ x y, R.an x = R.an y → x = y) {f : Nat} : ∀ {ns : List Nat} {fs : List (Str × V)}, fs.map (·.1) = ns.map R.an → ns.contains f = false → fs.lookup (R.an f) = none
  | [], [], _, _ => rfl
  | [], _ :: _, m, _ => by simp at m
  | _ :: _, [], m, _ => by simp at m
  | n :: ns, (x, v) :: fs, m, e => by
    simp only [List.map_cons, List.cons.injEq] at m
    obtain ⟨rfl, m⟩ := m
    rw [List.contains_cons, Bool.or_eq_false_iff] at e
    rw [List.lookup_cons]
    have : (R.an f == R.an n) = false := by
      rw [beq_eq_false_iff_ne]
      intro z
      have := ani _ _ z
      subst this
      simp at e
    rw [this]
    exact look_none ani m e.2
theorem lookN_none {f : Nat} : ∀ {ns : List Nat} {vs : List D}, ns.length = vs.length → lookN f ns vs = none → ns.contains f = false
  | [], _, _, _ => rfl
  | _ :: _, [], h, _ => by cases h
  | n :: ns, d :: vs, h, e => by
    unfold lookN at e
    by_cases hn : n = f
    · subst hn
      rw [if_pos (beq_self_eq_true _)] at e
      cases e
    · rw [if_neg (by simpa using hn)] at e
      rw [List.contains_cons, lookN_none (by simpa using h) e, Bool.or_false, beq_eq_false_iff_ne]
      exact fun z => hn z.symm
theorem nox_sat {α β : Type} {W W' : WX} {st st' : L2.St} {r : List Addr} {H : Hp} {Rel : List Addr → Hp → α → β → Prop} {o : Out α} {Q : β → Hp → Prop} (h : Sat R W rs st r H Rel (nox o) Q) : Sat R W' rs st' r H Rel o Q := by
  cases o with
  | ok a S => exact h
  | exc _ _ => exact h.elim
  | bad => exact h
/-- the promise of a call whose new cells go, or stay -/
theorem do_sat {kp : Bool} {C : Cxt} {T : Sta} {f : Nat} {F : FD} {vs : List D} {ws : List V} {st : L2.St} {r : List Addr} {S : Sto} {H : Hp} {Q : VK} (hl : vs.length = F.ps.length) (h : RS R rs r S H) (q : Reps R r H vs ws) (hs : Sat R W rs st r H (Rep R) (doCall C rs kp f vs S) Q) :
    spOf R F.ps.length (C.call f) ws H Q (fun c d H => W c d st H) := by
  unfold doCall at hs
  cases kp with
  | true => exact ⟨R.hid, r, S, vs, rs, hl, h, q, hs⟩
  | false => exact ⟨R.hid, r, S, vs, S.length :: rs, hl, h.region, q, Sat.endCall h hs⟩
/-- the values in the parameters' order, with their likes -/
theorem bind_rep {F : FD} {dvs : List V} {xs zs vs : List D} {us ks : List V} {kn : List Nat} {r : List Addr} {H : Hp} (hd : Reps R r H F.dv dvs) (qx : Reps R r H xs us) (qz : Reps R r H zs ks) (e : bindA F.dv F.ps xs kn zs = some vs) :
    ∃ ws, bindA dvs F.ps us kn ks = some ws ∧ Reps R r H vs ws ∧ vs.length = F.ps.length := by
  obtain ⟨ws, e2, p⟩ := bindA_rel (Reps.paired hd) (Reps.paired qz) (Reps.paired qx) e
  exact ⟨ws, e2, Reps.of p, bindA_len e⟩
theorem pass_none : Passes (L2.CX X.prog X.w) X (fun _ _ _ => False) := fun pins σ H s e s' _ h => by
  unfold L2.CX at h
  simp only [and_false, exists_false] at h
theorem binds_of {K : PySem.W.Frag} {an : Nat → Str} {fd : FuncData} {p : Nat} (h : Shape K an fd [p] [] 1 []) : Binds K fd ([p].map an) [] := fun s us hK hl => by
  rw [List.append_nil] at hl ⊢
  match us, hl with
  | [u], _ => exact h s [u] [] [u] hK rfl rfl rfl
theorem se_attr {o : CE} {f : Nat} {eo : Expr} {pos : Pos} {C : Cxt} {T : Sta} (ok : XOk R N c X) (wd : WldX R T c C X) (ho : SE R W rs X eo (ev C rs o)) (nsup : noSuper eo = true) : SE R W rs X (.Attribute eo (nmAt T.an f) pos) (ev C rs (.attr o f)) := by
  refine ⟨fun pins s st H Q I ⟨r, F, S, h, hF, hs⟩ => ?_⟩
  simp only [ev] at hs
  refine attr_of (super_of nsup _) (thn (ho.run pins s st H (fun x H1 => ∃ r1 S1 d, RS R rs r1 S1 H1 ∧ Rep R r1 H1 d x ∧ Sat R W rs st r1 H1 (Rep R) (match objOf S1 d with
    | some (c, ns, vs) => match lookN f ns vs with
      | some d => if C.cl.fok c f then .ok d S1 else .bad
      | none => match C.cl.prp c f with
        | some g => match C.pars g with
          | some ([_], []) => nox (doCall C rs false g [d] S1)
          | _ => .bad
        | none => match C.cl.con c f with
          | some d => .ok d S1
          | none => .bad
    | none => .bad) Q) I (bindG h hF hs fun r1 S1 H1 d x e1 h1 hF1 q hs => ⟨r1, S1, d, h1, q, hs⟩)) fun u s1 ⟨x, H1, I1, rx, r1, S1, d, h1, q, hs⟩ => ?_)
  split at hs
  · rename_i k ns vs eo
    obtain ⟨a, dx, fs, rfl, ea, m, g⟩ := obj_at h1 q eo
    obtain rfl : u = Value.ref a := rx
    have an := wd.an
    rw [← an]
    split at hs
    · rename_i d' el
      split at hs
      · rename_i fk
        obtain ⟨v, l1, l2⟩ := look_some wd.ani m g el
        obtain ⟨cl, na⟩ := wd.fok k f fk
        exact getattr_ok I1 ea cl na l1 fun u' s2 I2 ru => ⟨v, H1, I2, ru, hs.fin h1 l2⟩
      · exact hs.elim
    · rename_i el
      have hlen : ns.length = vs.length := by
        have := congrArg List.length m
        rw [List.length_map, List.length_map] at this
        rw [← this, g.length, List.length_map]
      have ln := look_none wd.ani m (lookN_none hlen el)
      split at hs
      · rename_i pg ep
        obtain ⟨⟨FD, hfd⟩, hsh', cl, p, hp⟩ := wd.prp k f pg ep
        obtain ⟨kk, fd, dvs, dw, c2, c3, c4, c5, c6, c7⟩ := wd.call pg FD hfd
        rw [wd.pars pg, hfd] at hs
        simp only [Option.map_some] at hs
        split at hs
        · rename_i p0 epp
          have e1 : FD.ps = [p0] ∧ FD.dv = [] := by
            have := Option.some.inj epp
            exact Prod.mk.inj this
          have sp := do_sat (T := T) (F := FD) (W := fun _ _ _ _ => False) (st := st) (by rw [e1.1]; rfl) h1 (.cons q .nil) (nox_sat hs)
          have dv0 : dvs = [] := by
            have := c5 [] [] (fun _ => none)
            rw [e1.2] at this
            cases this
            rfl
          subst dv0
          cases c6
          have sh := c7 _ hsh'
          rw [e1.1] at sh c3
          rw [e1.1] at sp
          exact getprop_ok I1 ea cl hp c3 c4 (binds_of sh) .nil pass_none sp
        · exact hs.elim
      · split at hs
        · rename_i d' ec
          obtain ⟨cl, v, u', kc, q'⟩ := wd.con k f d' ec
          have q2 : Rep R r1 H1 d' v := q' R.hid r1 H1
          exact getcon_ok I1 ea cl kc ln fun s2 I2 => ⟨v, H1, I2, kc.rel, hs.fin h1 q2⟩
        · exact hs.elim
  · exact hs.elim
/-- the form of a method's call -/
theorem meth_form {o : Expr} {m : Str} {apos pos : Pos} {es : List Expr} {ks : List Keyword} {an : List Str} {kn : List Nat} {env : Env} (nsup : noSuper o = true) (hst : es.all noStar = true) (hkw : kwOk an kn ks = true) (hl : (apos.endLine == pos.line) = true) (hn : es.length + ks.length < 20) :
    eval (.Call (.Attribute o m apos) es ks pos) env = (do
      let ov ← eval o env
      standAt apos.atName
      let (f, first) ← holding [ov] (getMethod ov m (plainOf o env))
      callWith pos f first (backTo pos (starEach es env)) (backToKw pos (keywordEach ks env))) := by
  have all : ∀ es : List Expr, es.all noStar = true → (backTo pos (starEach es env)).all (fun x => !x.1) = true := by
    intro es
    induction es with
    | nil => intro _; rfl
    | cons e r ih =>
      intro h
      rw [List.all_cons, Bool.and_eq_true] at h
      rw [star_of h.1]
      have i2 := ih h.2
      unfold backTo at i2 ⊢
      rw [List.map_cons, List.all_cons, i2]
      rfl
  obtain ⟨w1, w2, w3⟩ := kwOk_all (env := env) (pos := pos) hkw
  refine mcall_of (super_of nsup _) fun ov => mcall_line ?_ hl
  unfold methodCallForm
  rw [all es hst, w1]
  simp only [Bool.true_and, decide_eq_true_eq]
  split <;> omega
/-- the values of a call's arguments and keywords, then the callee -/
theorem args_run {C : Cxt} {as ka : List CE} {es : List Expr} {ks : List Keyword} {kn : List Nat} {an : List Str} {pos : Pos} {f : Value} {first : List Value} {pins : List (Addr × Obj)} {s : Shared} {st : L2.St} {H : Hp} {Q : VK} {r : List Addr} {F : Fr} {S : Sto} {g : List D → List D → Sto → Out D}
    (hk : PySem.W.keepIn X.K f = true) (ha : SA R W rs X es (evL C rs as)) (hkk : SK R W rs X ks (evL C rs ka)) (hst : es.all noStar = true) (hla : as.length = es.length) (hkw : kwOk an kn ks = true) (I : Inv X pins st H s) (h : RS R rs r S H) (hF : RF R r H F st)
    (hs : Sat R W rs st r H (Rep R) ((evL C rs as F S).bind fun xs S2 => (evL C rs ka F S2).bind fun zs S3 => g xs zs S3) Q)
    (go : ∀ (r2 : List Addr) (S2 : Sto) (H2 : Hp) (xs zs : List D) (us ws : List Value) (vs kv : List V) (s2 : Shared), Inv X pins st H2 s2 → Ext r H r2 H2 → RS R rs r2 S2 H2 → Reps R r2 H2 xs vs → Reps R r2 H2 zs kv → Vals vs us → Vals kv ws → xs.length = as.length → zs.length = ka.length → Sat R W rs st r2 H2 (Rep R) (g xs zs S2) Q →
      wpAny (model X.prog X.w) X.A (call f (first ++ us) ((kn.map (nmAt an)).zip ws)) (EP X pins st Q) X.xe s2) :
    wpAny (model X.prog X.w) X.A (callWith pos f first (backTo pos (starEach es X.env)) (backToKw pos (keywordEach ks X.env))) (EP X pins st Q) X.xe s := by
  obtain ⟨w1, w2, w3⟩ := kwOk_all (env := X.env) (pos := pos) hkw
  have kws : ∀ (r1 : List Addr) (S1 : Sto) (H1 : Hp) (xs : List D) (us : List Value) (vs : List V) (s1 : Shared), Inv X pins st H1 s1 → Ext r H r1 H1 → RS R rs r1 S1 H1 → RF R r1 H1 F st → Reps R r1 H1 xs vs → Vals vs us → xs.length = as.length → Sat R W rs st r1 H1 (Rep R) ((evL C rs ka F S1).bind fun zs S3 => g xs zs S3) Q →
      wpAny (model X.prog X.w) X.A (evalAll ((backToKw pos (keywordEach ks X.env)).map (·.2))) (fun ws s2 => X.K.In s2.heap ∧ wpAny (model X.prog X.w) X.A (call f (first ++ us) (((backToKw pos (keywordEach ks X.env)).filterMap (·.1)).zip ws)) (EP X pins st Q) X.xe s2) X.xe s1 := by
    intro r1 S1 H1 xs us vs s1 I1 e1 h1 hF1 qx rv lx hs
    refine thn (hkk.run pos pins s1 st H1 (fun kv H2 => ∃ r2 S2 zs, Ext r1 H1 r2 H2 ∧ RS R rs r2 S2 H2 ∧ Reps R r2 H2 zs kv ∧ zs.length = ka.length ∧ Sat R W rs st r2 H2 (Rep R) (g xs zs S2) Q) I1 (bindE h1 hF1 hs fun r2 S2 H2 zs kv el e2 h2 _ qz hs => ⟨r2, S2, zs, e2, h2, qz, evL_len el, hs⟩)) fun ws s2 ⟨kv, H2, I2, rk, r2, S2, zs, e2, h2, qz, lz, hs⟩ => ⟨I2.kIn, ?_⟩
    rw [w2]
    exact go r2 S2 H2 xs zs us ws vs kv s2 I2 (e1.trans e2) h2 (qx.ext e2) qz rv rk lx lz hs
  cases es with
  | nil =>
    refine PySem.W.callWith_KW0 (h₀ := X.base) I.ok.mod.kin hk w1 ?_ (by rw [w3]; rfl)
    have e : as = [] := by
      cases as with
      | nil => rfl
      | cons a as => cases hla
    subst e
    simp only [evL, Out.bind] at hs
    exact kws r S H [] [] [] s I (.refl _ _) h hF .nil .nil rfl hs
  | cons ea es =>
    have hst' := hst
    rw [List.all_cons, Bool.and_eq_true] at hst'
    refine PySem.W.callWith_KW (h₀ := X.base) I.ok.mod.kin hk w1 (thn (ha.run pos pins s st H (fun vs H1 => ∃ r1 S1 xs, Ext r H r1 H1 ∧ RS R rs r1 S1 H1 ∧ RF R r1 H1 F st ∧ Reps R r1 H1 xs vs ∧ xs.length = as.length ∧ Sat R W rs st r1 H1 (Rep R) ((evL C rs ka F S1).bind fun zs S3 => g xs zs S3) Q) I (bindE h hF hs fun r1 S1 H1 xs vs el e1 h1 hF1 qx hs => ⟨r1, S1, xs, e1, h1, hF1, qx, evL_len el, hs⟩)) fun us s1 ⟨vs, H1, I1, rv, r1, S1, xs, e1, h1, hF1, qx, lx, hs⟩ => ?_) (by rw [star_pl hst, w3]; rfl) (star_of hst'.1)
    exact kws r1 S1 H1 xs us vs s1 I1 e1 h1 hF1 qx rv lx hs
/-- the values of a call's arguments, then the callee, whatever is wanted behind it -/
theorem args_runP {Post : Value → Shared → Prop} {C : Cxt} {as : List CE} {es : List Expr} {pos : Pos} {f : Value} {pins : List (Addr × Obj)} {s : Shared} {st : L2.St} {H : Hp} {r : List Addr} {F : Fr} {S : Sto} {QL : List V → Hp → Prop}
    (hk : PySem.W.keepIn X.K f = true) (ha : SA R W rs X es (evL C rs as)) (hst : es.all noStar = true) (hla : as.length = es.length) (I : Inv X pins st H s) (h : RS R rs r S H) (hF : RF R r H F st) (hs : Sat R W rs st r H (Reps R) (evL C rs as F S) QL)
    (go : ∀ (H2 : Hp) (us : List Value) (vs : List V) (s2 : Shared), Inv X pins st H2 s2 → Vals vs us → QL vs H2 → wpAny (model X.prog X.w) X.A (call f us) Post X.xe s2) :
    wpAny (model X.prog X.w) X.A (callWith pos f [] (backTo pos (starEach es X.env)) (backToKw pos (keywordEach [] X.env))) Post X.xe s := by
  have hw : ∀ Q', Sat R W rs st r H (Reps R) (evL C rs as F S) Q' → tG R W rs (Reps R) (evL C rs as) st H Q' := fun Q' q => ⟨r, F, S, h, hF, q⟩
  cases es with
  | nil =>
    have e : as = [] := by
      cases as with
      | nil => rfl
      | cons a as => cases hla
    subst e
    simp only [evL] at hs
    exact PySem.W.callWith_K0 I.kIn hk (go H [] [] s I .nil (Sat.fin hs h .nil))
  | cons ea es =>
    have hst' := hst
    rw [List.all_cons, Bool.and_eq_true] at hst'
    refine PySem.W.callWith_K (h₀ := X.base) I.ok.mod.kin hk (thn (ha.run pos pins s st H QL I (hw _ hs)) fun us s1 ⟨vs, H1, I1, rv, q⟩ => ⟨I1.kIn, ?_⟩) (star_of hst'.1) (star_pl hst'.2)
    rw [List.nil_append]
    exact go H1 us vs s1 I1 rv q
theorem takes_err {pins : List (Addr × Obj)} {st : L2.St} {H : Hp} {s : Shared} {e : Value} {s' : Shared} (tk : Takes X W) (I : Inv X pins st H s) (h : L2.CX X.prog X.w X.stack H s (fun c d H => W c d st H) e s') : X.xe e s' :=
  tk _ _ (XE.of_call I (fun _ _ _ w => w) h)
/-- a def runs, from its arguments -/
theorem fn_run {k : Nat} {fa : Addr} {fd : FuncData} {ps kn : List Nat} {an : List Str} {sp : Sp} {dvs : List V} {dw : List Value} {pins : List (Addr × Obj)} {st : L2.St} {H : Hp} {s : Shared} {Q : VK} {us ws : List Value} {vs kv zs : List V}
    (F : FnOk X.prog X.w X.K X.mg X.base (L2.CX X.prog X.w) k fa fd (ps.map (nmAt an)) sp) (hr : Room k X.A) (tk : Takes X W) (hd : Vals dvs dw) (sh : Shape X.K (nmAt an) fd ps dw us.length kn)
    (I : Inv X pins st H s) (rv : Vals vs us) (rk : Vals kv ws) (hl : ws.length = kn.length) (e : bindA dvs ps vs kn kv = some zs) (h : sp zs H Q (fun c d H => W c d st H)) :
    wpAny (model X.prog X.w) X.A (call (.ref fa) us ((kn.map (nmAt an)).zip ws)) (EP X pins st Q) X.xe s := run_fnG F hr tk hd sh I rv rk hl e h
theorem se_meth {kp : Bool} {o : CE} {m : Nat} {as ka : List CE} {kn : List Nat} {eo : Expr} {es : List Expr} {ks : List Keyword} {apos pos : Pos} {C : Cxt} {T : Sta} (ok : XOk R N c X) (wd : WldX R T c C X) (tk : Takes X W) (ho : SE R W rs X eo (ev C rs o)) (ha : SA R W rs X es (evL C rs as)) (hk : SK R W rs X ks (evL C rs ka))
    (nsup : noSuper eo = true) (hst : es.all noStar = true) (hla : as.length = es.length) (hlk : ka.length = kn.length) (hkw : kwOk T.an kn ks = true) (hl : (apos.endLine == pos.line) = true) (hn : es.length + ks.length < 20) (hsh : ∀ c g, C.cl.mth c m = some g → (as.length + 1, kn) ∈ T.shp g) :
    SE R W rs X (.Call (.Attribute eo (nmAt T.an m) apos) es ks pos) (ev C rs (.meth kp o m as kn ka)) := by
  refine ⟨fun pins s st H Q I ⟨r, F, S, h, hF, hs⟩ => ?_⟩
  simp only [ev] at hs
  refine PySem.W.methodCall_KW (pl := plainOf eo X.env) (thn (ho.run pins s st H (fun x H1 => ∃ r1 S1 d, RS R rs r1 S1 H1 ∧ RF R r1 H1 F st ∧ Rep R r1 H1 d x ∧ Sat R W rs st r1 H1 (Rep R) (match objOf S1 d with
    | some (c, ns, _) => match C.cl.mth c m with
      | some g => if ns.contains m then .bad else (evL C rs as F S1).bind fun xs S2 => (evL C rs ka F S2).bind fun zs S3 => match C.pars g with
        | some (ps, dv) => match bindA dv ps (d :: xs) kn zs with
          | some vs => doCall C rs kp g vs S3
          | none => .bad
        | none => .bad
      | none => .bad
    | none => .bad) Q) I (bindG h hF hs fun r1 S1 H1 d x e1 h1 hF1 q hs => ⟨r1, S1, d, h1, hF1, q, hs⟩)) fun u s1 ⟨x, H1, I1, rx, r1, S1, d, h1, hF1, q, hs⟩ => ?_) (meth_form (pos := pos) nsup hst hkw hl hn)
  split at hs
  · rename_i k ns vs eo'
    obtain ⟨a, dx, fs, rfl, ea, mm, g⟩ := obj_at h1 q eo'
    obtain rfl : u = Value.ref a := rx
    split at hs
    · rename_i gd em
      obtain ⟨⟨FD, hfd⟩, cl, mt⟩ := wd.mth k m gd em
      obtain ⟨kk, fd, dvs, dw, c2, c3, c4, c5, c6, c7⟩ := wd.call gd FD hfd
      split at hs
      · exact hs.elim
      · rename_i nm
        have ln := look_none wd.ani mm (Bool.eq_false_iff.mpr nm)
        rw [← wd.an]
        refine getmeth_ok I1 ea cl mt ln ?_
        refine args_run mt.kp ha hk hst hla hkw I1 h1 hF1 hs fun r2 S2 H2 xs zs us ws vs' kv s2 I2 e2 h2 qx qz rv rk lx lz hs => ?_
        rw [wd.pars gd, hfd] at hs
        simp only [Option.map_some] at hs
        split at hs
        · rename_i bs eb
          obtain ⟨wz, b1, b2, b3⟩ := bind_rep (c5 R.hid r2 H2) (Reps.cons (q.ext e2) qx) qz eb
          have sp := do_sat (T := T) b3 h2 b2 hs
          refine fn_run (us := .ref a :: us) (vs := .ref a :: vs') c3 (c4.mono (Nat.le_succ kk)) tk c6 ?_ I2 (.cons rfl rv) rk ?_ b1 sp
          · have := c7 _ (hsh k gd em)
            rw [show (Value.ref a :: us).length = as.length + 1 from by rw [List.length_cons, ← rv.length, ← qx.length, lx]]
            exact this
          · rw [← rk.length, ← qz.length, lz, hlk]
        · exact hs.elim
    · exact hs.elim
  · exact hs.elim
/-- the promise of __init__ at a new instance -/
theorem make_sat {kp : Bool} {C : Cxt} {k g : Nat} {F : FD} {vs : List D} {wz : List V} {st : L2.St} {r : List Addr} {S : Sto} {H : Hp} {Q : VK} {x dx : Addr} (nx : H x = none) (ndx : H dx = none) (ne : dx ≠ x) (hl : vs.length = F.ps.length) (h : RS R rs r S H)
    (q : Reps R (r ++ [x]) (upd (upd H dx (.own x)) x (.ins (R.cadr k) dx [])) vs wz) (hs : Sat R W rs st r H (Rep R) (doMake C rs kp k g vs S) Q) :
    spOf R F.ps.length (C.call g) wz (upd (upd H dx (.own x)) x (.ins (R.cadr k) dx [])) (fun v H2 => v = .non ∧ Q (.ref x) H2) (fun c d H => W c d st H) := by
  have nx2 : upd H dx (.own x) x = none := by rw [upd_ne (fun z => ne z.symm)]; exact nx
  have e0 : Ext r H (r ++ [x]) (upd (upd H dx (.own x)) x (.ins (R.cadr k) dx [])) := (Ext.fresh ndx).trans (.push nx2)
  have pushed : ∀ rs', RS R rs' r S H → RS R rs' (r ++ [x]) (S ++ [.obj k [] []]) (upd (upd H dx (.own x)) x (.ins (R.cadr k) dx [])) := fun rs' h => (h.fresh ndx).push nx2 (.obj rfl .nil)
  have at_ : ∀ {r' : List Addr} {H' : Hp}, Ext (r ++ [x]) (upd (upd H dx (.own x)) x (.ins (R.cadr k) dx [])) r' H' → Rep R r' H' (.ref S.length) (.ref x) := fun {r' H'} e => .ref (by
    rw [e.old S.length (by rw [List.length_append, List.length_singleton, h.len]; omega), ← h.len, List.getElem?_append_right (Nat.le_refl _), Nat.sub_self]
    rfl)
  unfold doMake at hs
  cases kp with
  | true =>
    simp only [if_true] at hs
    refine ⟨R.hid, _, _, vs, rs, hl, pushed rs h, q, ?_⟩
    split at hs
    · rename_i S3 eo
      rw [eo]
      intro r' H' v e' h' qv
      cases qv
      exact ⟨rfl, hs r' H' (.ref x) (e0.trans e') h' (at_ e')⟩
    · rename_i x' S3 eo
      rw [eo]
      exact fun r' H' cls dd e' h' qx => hs r' H' cls dd (e0.trans e') h' qx
    · exact hs.elim
  | false =>
    simp only [Bool.false_eq_true, if_false] at hs
    refine ⟨R.hid, _, _, vs, S.length :: rs, hl, pushed _ h.region, q, ?_⟩
    split at hs
    · rename_i S3 eo
      rw [eo]
      have hs2 := Sat.endCall h hs
      intro r' H' v e' h' qv
      cases qv
      exact ⟨rfl, hs2 r' H' (.ref x) (e0.trans e') h' (at_ e')⟩
    · rename_i x' S3 eo
      rw [eo]
      have hs2 := Sat.endCall h hs
      exact fun r' H' cls dd e' h' qx => hs2 r' H' cls dd (e0.trans e') h' qx
    · exact hs.elim
/-- an instance is made -/
theorem make_run {C f : Addr} {k : Nat} {fd : FuncData} {ps kn : List Nat} {an : List Str} {sp : Sp} {dvs : List V} {dw : List Value} {pins : List (Addr × Obj)} {st : L2.St} {H : Hp} {s : Shared} {Q : VK} {us ws : List Value} {vs kv : List V}
    (M : Mk X.K C f) (F : FnOk X.prog X.w X.K X.mg X.base (L2.CX X.prog X.w) k f fd (ps.map (nmAt an)) sp) (hr : Room (k + 1) X.A) (tk : Takes X W) (hd : Vals dvs dw) (sh : Shape X.K (nmAt an) fd ps dw (us.length + 1) kn) (I : Inv X pins st H s) (rv : Vals vs us) (rk : Vals kv ws) (hl : ws.length = kn.length)
    (h : ∀ x dx, H x = none → H dx = none → dx ≠ x → ∃ zs, bindA dvs ps (.ref x :: vs) kn kv = some zs ∧ sp zs (upd (upd H dx (.own x)) x (.ins C dx [])) (fun v H2 => v = .non ∧ Q (.ref x) H2) (fun c d H => W c d st H)) :
    wpAny (model X.prog X.w) X.A (call (.ref C) us ((kn.map (nmAt an)).zip ws)) (EP X pins st Q) X.xe s := by
  obtain ⟨zs, e, hq⟩ := h (s.heap.objs.size + 1) s.heap.objs.size (I.hok.fresh (Nat.le_succ _)) (I.hok.fresh (Nat.le_refl _)) (Nat.ne_of_lt (Nat.lt_succ_self _))
  have I2 := Inv.made (C := C) I
  have r2 : Vals (V.ref (s.heap.objs.size + 1) :: vs) (Value.ref (s.heap.objs.size + 1) :: us) := .cons rfl rv
  obtain ⟨xs, e2, rz⟩ := bindA_vals hd r2 rk e
  have hb := sh ({ s with heap := (s.heap.push PySem.W.emptyDict).push (PySem.W.instObj C s.heap.objs.size) }) (Value.ref (s.heap.objs.size + 1) :: us) ws xs I2.kIn rfl hl e2
  refine wpAny_call (make_map (f := f) I.kIn M.makes M.init (beq_iff_eq.mp M.fn) (codeAny_mono (F.run _ X.stack _ _ ⟨Value.ref (s.heap.objs.size + 1) :: us, (kn.map (nmAt an)).zip ws⟩ xs _ _ _ (hr.make C us ((kn.map (nmAt an)).zip ws))
    (I2.env0.make C us ((kn.map (nmAt an)).zip ws)) hb rz hq) fun r s' hq' => ?_))
  cases r with
  | error e => exact takes_err tk I2 hq'
  | ok fl =>
    cases fl with
    | ret u =>
      obtain ⟨v, H', I3, rv, ev, q3⟩ := I2.after hq'
      subst ev
      exact ⟨rv, ⟨V.ref (s.heap.objs.size + 1), H', I3, rfl, q3⟩⟩
    | next => exact False.elim hq'
    | brk => exact False.elim hq'
    | cont => exact False.elim hq'
theorem se_make {kp : Bool} {k : Nat} {as ka : List CE} {kn : List Nat} {es : List Expr} {ks : List Keyword} {x : Str} {p pos : Pos} {C : Cxt} {T : Sta} (ok : XOk R N c X) (wd : WldX R T c C X) (tk : Takes X W) (ha : SA R W rs X es (evL C rs as)) (hk : SK R W rs X ks (evL C rs ka)) (hx : T.cn k = some x) (hg : chkGl c.sc x = true)
    (hst : es.all noStar = true) (hla : as.length = es.length) (hlk : ka.length = kn.length) (hkw : kwOk T.an kn ks = true) (hsh : ∀ g, C.cl.ini k = some g → (as.length + 1, kn) ∈ T.shp g) :
    SE R W rs X (.Call (.Name x p) es ks pos) (ev C rs (.make kp k as kn ka)) := by
  obtain ⟨g1, g2⟩ := gl_of ok hg
  refine ⟨fun pins s st H Q I ⟨r, F, S, h, hF, hs⟩ => ?_⟩
  simp only [ev] at hs
  refine wpAny_Call_Name_kw (ld_glob I g1 (wd.cn k x hx) ?_ g2)
  split at hs
  · rename_i g ei
    obtain ⟨⟨FD, hfd⟩, mk⟩ := wd.ini k g ei
    obtain ⟨kk, fd, dvs, dw, c2, c3, c4, c5, c6, c7⟩ := wd.call g FD hfd
    refine args_run mk.kp ha hk hst hla hkw I h hF hs fun r2 S2 H2 xs zs us ws vs' kv s2 I2 e2 h2 qx qz rv rk lx lz hs => ?_
    rw [wd.pars g, hfd] at hs
    simp only [Option.map_some] at hs
    split at hs
    · rename_i bs eb
      refine make_run mk c3 c4 tk c6 ?_ I2 rv rk ?_ fun x dx nx ndx ne => ?_
      · have := c7 _ (hsh g ei)
        rw [List.nil_append, show us.length + 1 = as.length + 1 from by rw [← rv.length, ← qx.length, lx]]
        exact this
      · rw [← rk.length, ← qz.length, lz, hlk]
      · have nx2 : upd H2 dx (.own x) x = none := by rw [upd_ne (fun z => ne z.symm)]; exact nx
        have e0 : Ext r2 H2 (r2 ++ [x]) (upd (upd H2 dx (.own x)) x (.ins (R.cadr k) dx [])) := (Ext.fresh ndx).trans (.push nx2)
        have rx : Rep R (r2 ++ [x]) (upd (upd H2 dx (.own x)) x (.ins (R.cadr k) dx [])) (.ref S2.length) (.ref x) := .ref (by
          rw [← h2.len, List.getElem?_append_right (Nat.le_refl _), Nat.sub_self]
          rfl)
        obtain ⟨wz, b1, b2, b3⟩ := bind_rep (c5 R.hid (r2 ++ [x]) _) (Reps.cons rx (qx.ext e0)) (qz.ext e0) eb
        exact ⟨wz, b1, make_sat nx ndx ne b3 h2 b2 hs⟩
    · exact hs.elim
  · exact hs.elim
theorem se_smeth {kp : Bool} {k m : Nat} {as ka : List CE} {kn : List Nat} {es : List Expr} {ks : List Keyword} {x : Str} {p apos pos : Pos} {C : Cxt} {T : Sta} (ok : XOk R N c X) (wd : WldX R T c C X) (tk : Takes X W) (ha : SA R W rs X es (evL C rs as)) (hk : SK R W rs X ks (evL C rs ka)) (hx : T.cn k = some x) (hg : chkGl c.sc x = true)
    (hst : es.all noStar = true) (hla : as.length = es.length) (hlk : ka.length = kn.length) (hkw : kwOk T.an kn ks = true) (hl : (apos.endLine == pos.line) = true) (hn : es.length + ks.length < 20) (hsh : ∀ g, C.cl.smt k m = some g → (as.length, kn) ∈ T.shp g) :
    SE R W rs X (.Call (.Attribute (.Name x p) (nmAt T.an m) apos) es ks pos) (ev C rs (.smeth kp k m as kn ka)) := by
  obtain ⟨g1, g2⟩ := gl_of ok hg
  refine ⟨fun pins s st H Q I ⟨r, F, S, h, hF, hs⟩ => ?_⟩
  simp only [ev] at hs
  split at hs
  · rename_i g ei
    obtain ⟨⟨FD, hfd⟩, sm⟩ := wd.smt k m g ei
    obtain ⟨kk, fd, dvs, dw, c2, c3, c4, c5, c6, c7⟩ := wd.call g FD hfd
    obtain ⟨pp, s1, rest, s2⟩ := sm.at_
    refine PySem.W.methodCall_KW (pl := plainOf (.Name x p) X.env) (ld_glob I g1 (wd.cn k x hx) ?_ g2) (meth_form (pos := pos) rfl hst hkw hl hn)
    rw [wd.an] at s1
    refine PySem.W.method_cls I.kIn sm.ga (PySem.W.cls_bind I.kIn sm.rd s1 (wpAny_call (PySem.W.sm_get (s := { s with toks := s.toks + 1 }) I.kIn s2 (PySem.W.handed_on rfl ?_))))
    refine args_run c2 ha hk hst hla hkw (I.tok _) h hF hs fun r2 S2 H2 xs zs us ws vs' kv s2 I2 e2 h2 qx qz rv rk lx lz hs => ?_
    rw [wd.pars g, hfd] at hs
    simp only [Option.map_some] at hs
    split at hs
    · rename_i bs eb
      obtain ⟨wz, b1, b2, b3⟩ := bind_rep (c5 R.hid r2 H2) qx qz eb
      have sp := do_sat (T := T) b3 h2 b2 hs
      refine fn_run (us := us) (vs := vs') c3 (c4.mono (Nat.le_succ kk)) tk c6 ?_ I2 rv rk ?_ b1 sp
      · have := c7 _ (hsh g ei)
        rw [show us.length = as.length from by rw [← rv.length, ← qx.length, lx]]
        exact this
      · rw [← rk.length, ← qz.length, lz, hlk]
    · exact hs.elim
  · exact hs.elim
end
end OM
set_option Elab.async false
set_option linter.all false
set_option maxRecDepth 100000
set_option maxHeartbeats 2000000
/-! OmSet: {v for v in xs} of texts and numbers; its length. -/
namespace OM
open PySem PySem.Spec PyProof.Rows L2

def kin (k : Key) (ks : List Key) : Bool := ks.any fun j => decide (j = k)
theorem kin_snoc (k j : Key) (ks : List Key) : kin k (ks ++ [j]) = (kin k ks || decide (k = j)) := by
  unfold kin
  rw [List.any_append]
  simp only [List.any_cons, List.any_nil, Bool.or_false]
  congr 1
  exact decide_eq_decide.mpr ⟨Eq.symm, Eq.symm⟩
/-- how many different ones, from the front -/
def fcnt : List Key → List Key → Nat
  | _, [] => 0
  | seen, k :: ks => (if kin k seen then 0 else 1) + fcnt (seen ++ [k]) ks
theorem fcnt_snoc (seen : List Key) : ∀ (ks : List Key) (k : Key), fcnt seen (ks ++ [k]) = fcnt seen ks + (if kin k (seen ++ ks) then 0 else 1) := by
  intro ks
  induction ks generalizing seen with
  | nil => intro k; simp [fcnt]
  | cons x ks ih =>
    intro k
    show (if kin x seen then 0 else 1) + fcnt (seen ++ [x]) (ks ++ [k]) = _
    rw [ih (seen ++ [x]) k, List.append_assoc]
    show _ = ((if kin x seen then 0 else 1) + fcnt (seen ++ [x]) ks) + _
    rw [← Nat.add_assoc]
    rfl
section
variable {X : Cx}
/-- the identity comprehension over a list or tuple of keys -/
theorem pe_dset {iter : Expr} {te : TE} {v : Str} {pe pv pos : Pos} {scope : Scope} (hc : X.calm = true) (hi : PE X iter te) (hall : ∀ y ∈ scope.names, y.2 = .local ∧ scope.names.lookup y.1 = some .local) (hv : scope.names.lookup v = some .local) (hk : scope.kind = .function) (hd : (v == ("__debug__" : Str)) = false) (hs : ∀ x, foldedSetIterable iter X.env x = pure x) :
    PE X (.SetComp (.Name v pe) [⟨.Name v pv, iter, [], 0⟩] scope pos) (fun σ H Q => te σ H fun x H1 => ∃ (a : Addr) (ks : List Key), x = .ref a ∧ (SqL X.K H1 a (ks.map kV) ∨ SqT X.K H1 a (ks.map kV)) ∧ ks.length < 4000 ∧
      ∀ D, H1 D = none → Q (.ref D) (upd H1 D (SetK X.prog X.w D (fun k => kin k ks) (fcnt [] ks)))) := by
  refine ⟨fun pins s σ H Q I h => ?_⟩
  have hh := I.ok.hd hc
  refine SetComp_goes (cl := cloFrom X.env.cells scope.names []) (closure_ok fun y hy e => ?_) (fun y hy e => ?_) hk (fun y hy e => ?_) (thn (hi.run pins s σ H _ I h) fun xv s1 ⟨x, H1, I1, rx, a, ks, ex, hq, hl, q⟩ => ?_) hs
  · rw [(hall y hy).1] at e
    cases e
  · rw [(hall y hy).1] at e
    cases e
  · exact (hall y hy).2
  subst ex
  obtain rfl : xv = Value.ref a := rx
  have asz : a < s1.heap.objs.size := by
    rcases hq with hq | hq
    · obtain ⟨_, _, pl, _⟩ := I1.list hq
      obtain ⟨o, e, _⟩ := pl.isList
      exact Heap.lt_size e
    · obtain ⟨_, _, ⟨o, e, _⟩, _⟩ := I1.tuple hq
      exact Heap.lt_size e
  have hkind : (compEnvC scope (cloFrom X.env.cells scope.names []) 0 X.env).scope.kind = .function := hk
  have loc : ∀ C, (compEnvC scope (cloFrom X.env.cells scope.names []) C X.env).kindOf v = some .local := fun C => lookup_relabel_local (env := X.env) hv
  have hp : ∀ C, ((compEnvC scope (cloFrom X.env.cells scope.names []) C X.env).scope.kind == .class || ((compEnvC scope (cloFrom X.env.cells scope.names []) C X.env).scope.kind == .module && (compEnvC scope (cloFrom X.env.cells scope.names []) C X.env).locals != (compEnvC scope (cloFrom X.env.cells scope.names []) C X.env).globals)) = false := fun C => by
    show (scope.kind == .class || (scope.kind == .module && _)) = false
    rw [hk]
    rfl
  -- what is owed, from the iterator on
  have owed : ∀ (its : List Value) (o2 : Obj) (St : Nat → Heap → Prop), Vals (ks.map kV) its → Goes X.prog X.w X.A (.Name v pv) s1.heap.objs.size [s1.heap.objs.size, a] [s1.heap.objs.size] its.toArray.size (fun i u _ => its.toArray[i]? = some u) St → St 0 (s1.heap.push o2) →
      ScGoes X.prog X.w X.A X.xe X.env scope (cloFrom X.env.cells scope.names []) (.Name v pv) [] (.Name v pe) none (EP X pins σ Q) (.ref s1.heap.objs.size) { s1 with heap := s1.heap.push o2 } := by
    intro its o2 St rv W st0
    have hn : its.toArray.size = ks.length := by rw [List.size_toArray, ← rv.length, List.length_map]
    refine ⟨_, _, _, _, _, St, rfl, W, st0, fun D C s3 B hD => ?_⟩
    obtain ⟨⟨h3, tk3, e3⟩, old, nD, nC, neDC, names⟩ := B
    subst e3
    have psz : (s1.heap.push o2).objs.size = s1.heap.objs.size + 1 := Heap.size_push ..
    have nD' : s1.heap.objs.size + 1 ≤ D := by rw [← psz]; exact nD
    have nC' : s1.heap.objs.size + 1 ≤ C := by rw [← psz]; exact nC
    have low : ∀ b ∈ [s1.heap.objs.size, a], b ≠ D ∧ b ≠ C := fun b hb => by
      have : b ≤ s1.heap.objs.size := by
        simp only [List.mem_cons, List.mem_nil_iff, or_false] at hb
        rcases hb with rfl | rfl
        · exact Nat.le_refl _
        · exact Nat.le_of_lt asz
      exact ⟨Nat.ne_of_lt (by omega), Nat.ne_of_lt (by omega)⟩
    have up0 : ∀ b o, s1.heap.get? b = some o → (s1.heap.push o2).get? b = some o := fun b o e => Heap.get?_push_of_some _ e
    refine ⟨fun i s => ∃ h tk m, s = { s1 with heap := h, toks := tk } ∧ (∀ b o, s1.heap.get? b = some o → h.get? b = some o) ∧ h.Ns C m ∧ h.SetOf (mixKind X.prog X.w) D (fun k => kin k (ks.take i)) (fcnt [] (ks.take i)), ?_, ?_, ?_, ?_⟩
    · exact ⟨h3, tk3, _, rfl, fun b o e => old b o (up0 b o e), names, ⟨_, #[], 0, _, hD, ⟨rfl, rfl, rfl⟩, rfl, (fun e he => by simp at he), (fun k => by simp [kin]), (by decide), (by rfl), rfl⟩⟩
    · rintro i s h' tk ⟨h, tk0, m, rfl, up, ns, so⟩ hk' _
      have off : ∀ b : Addr, b ≠ s1.heap.objs.size → b ∉ [s1.heap.objs.size] := fun b hb hm => hb (List.mem_singleton.mp hm)
      have nDi : D ≠ s1.heap.objs.size := (low _ List.mem_cons_self).1.symm
      have nCi : C ≠ s1.heap.objs.size := (low _ List.mem_cons_self).2.symm
      refine ⟨h', tk, m, rfl, fun b o e => hk' b o (off b (Nat.ne_of_lt (Heap.lt_size e))) (up b o e), ns.at' fun o e => hk' _ o (off _ nCi) e, setOf_at so fun o e => hk' _ o (off _ nDi) e⟩
    · rintro i u s hi hu st ⟨h, tk0, m, rfl, up, ns, so⟩
      have hlt : i < ks.length := by rw [← hn]; exact hi
      have hki : (ks.map kV)[i]? = some (kV ks[i]) := by rw [List.getElem?_map, List.getElem?_eq_getElem hlt]; rfl
      obtain ⟨u', e', ru⟩ := rv.get hki
      have eu : u = u' := by
        have hu : its.toArray[i]? = some u := hu
        rw [List.getElem?_toArray, e'] at hu
        cases hu
        rfl
      subst eu
      refine wpAny_assign_Name (wpAny_storeName_local (loc C) ns (fun h4 n4 s4 => ?_) (hp C))
      refine wpAny_tests_nil ?_
      show wpAny _ _ _ _ _ _
      rw [eval_Name _ _ _ hd]
      refine wpAny_bind (wpAny_standAt (wpAny_loadName_local hkind (loc C) n4 (v := u) (by simp) ?_))
      have so4 : h4.SetOf (mixKind X.prog X.w) D (fun k => kin k (ks.take i)) (fcnt [] (ks.take i)) := setOf_at so fun o e => s4.extBut _ _ neDC e
      have room : fcnt [] (ks.take i) + 1 < scanBound := by
        have : ∀ (l sn : List Key), fcnt sn l ≤ l.length := by
          intro l
          induction l with
          | nil => intro sn; exact Nat.le_refl _
          | cons k l ih =>
            intro sn
            show (if kin k sn then 0 else 1) + fcnt (sn ++ [k]) l ≤ l.length + 1
            have := ih (sn ++ [k])
            split <;> omega
        have l1 := this (ks.take i) []
        rw [List.length_take] at l1
        show _ + 1 < 4096
        omega
      refine call_set_add (kV_is ru) (key_scan ru) so4 room fun h5 s5 new => ?_
      have up5 : ∀ b, b ≠ C → b ≠ D → ∀ o, h.get? b = some o → h5.get? b = some o := fun b hC hDd o e => (s5.2 b hDd).trans (s4.extBut _ _ hC e)
      refine ⟨⟨h5, _, _, rfl, fun b o e => ?_, n4.at' fun o e => (s5.2 C neDC.symm).trans e, ?_⟩, W.frame _ _ _ st fun b hb o e => up5 b (low b hb).2 (low b hb).1 o e⟩
      · have hb : b < s1.heap.objs.size := Heap.lt_size e
        exact up5 b (Nat.ne_of_lt (Nat.lt_of_lt_of_le hb (Nat.le_of_succ_le nC'))) (Nat.ne_of_lt (Nat.lt_of_lt_of_le hb (Nat.le_of_succ_le nD'))) o (up b o e)
      · have et : ks.take (i + 1) = ks.take i ++ [ks[i]] := by
          rw [List.take_add_one, List.getElem?_eq_getElem hlt]
          rfl
        have e1 : (fun k => kin k (ks.take (i + 1))) = fun k => kin k (ks.take i) || decide (k = ks[i]) := by
          funext k
          rw [et, kin_snoc]
        rw [e1, et, fcnt_snoc, List.nil_append]
        refine cast ?_ new
        congr 1
        cases kin ks[i] (ks.take i) <;> simp
    · rintro s ⟨h, tk0, m, rfl, up, ns, so⟩
      refine ⟨m, ns, fun h' sb => ?_⟩
      have so' : h'.SetOf (mixKind X.prog X.w) D (fun k => kin k ks) (fcnt [] ks) := by
        have := setOf_at so fun o e => (sb.2 D neDC).trans e
        rw [hn, List.take_length] at this
        exact this
      have hDn : H1 D = none := I1.hok.fresh (by omega)
      exact ⟨.ref D, _, I1.laid (t' := tk0) (h' := h') (a := D) (o := SetK X.prog X.w D (fun k => kin k ks) (fcnt [] ks)) (fun b o e => (sb.2 b (Nat.ne_of_lt (Nat.lt_of_lt_of_le (show b < s1.heap.objs.size from Heap.lt_size e) (Nat.le_of_succ_le nC')))).trans (up b o e)) (by omega) (setK_new so'), rfl, q D hDn⟩
  rcases hq with hq | hq
  · obtain ⟨its, rv, pl, hz⟩ := I1.list hq
    refine wpAny_pyIter_list pl.isList (owed its _ _ rv (.list hh _ a (Nat.ne_of_lt asz) its.toArray) ⟨⟨_, Heap.get?_push_size _ rfl, rfl, rfl⟩, ?_⟩)
    exact pl.isList.at fun o e => Heap.get?_push_of_some _ e
  · obtain ⟨its, rv, it, hz⟩ := I1.tuple hq
    refine wpAny_pyIter_tuple it (owed its _ _ rv (.tuple hh _ a (Nat.ne_of_lt asz) its.toArray) ⟨⟨_, Heap.get?_push_size _ rfl, rfl, rfl⟩, ?_⟩)
    exact Heap.IsTuple.at it fun o e => Heap.get?_push_of_some _ e
theorem cr_lenK : CallR X (.builtin "len") (fun xs H Q => ∃ a S n, xs = [.ref a] ∧ H a = some (SetK X.prog X.w a S n) ∧ Q (.int (n : Nat)) H) := by
  intro pins s σ H xs us Q I r h
  obtain ⟨a, S, n, rfl, ha, q⟩ := h
  obtain ⟨u, rfl, ru⟩ := vals1 r
  obtain rfl : u = Value.ref a := ru
  obtain ⟨o, es, ep, t, ho, hex, hd, _, _, hz, hf, hn⟩ := setK_get I ha
  have hz : es.size < 4096 := hz
  refine call_len_set ho hex hd hf (by omega) ⟨.int (n : Nat), H, I.tok _, ⟨_, by rw [hn]⟩, q⟩
end
end OM
set_option Elab.async false
set_option linter.all false
set_option maxRecDepth 100000
set_option maxHeartbeats 1000000
/-! OmOwn: x in o by o's own __contains__; displays with stars; how many different texts. -/
namespace OM
open PySem PySem.Spec PyProof.Rows L2
section
variable {R : RP} {W : WX} {rs : List Nat} {X : Cx} {N : List Str} {c : Scp}
/-- contains, by the class's def -/
theorem own_contains {M : Model} {A : Around} {E : Value → Shared → Prop} {s : Shared} {K : PySem.W.Frag} {a C f : Addr} {ox : Obj} {od : Option Obj} {u : Value} {Q : Bool → Shared → Prop} (kin : K.In s.heap) (I : PySem.W.InstAt s.heap a ox C od) (at_ : PySem.W.findIn K (.ref C) "__contains__" = some (some (.ref f))) (fn : PySem.W.isFn K (.ref f) = true)
    (h : wpAny M A (call (.ref f) [.ref a, u]) (fun t s' => wpAny M A (truthy t) Q E s') E s) : wpAny M A (contains (.ref a) u) Q E s := by
  unfold contains
  refine wpAny_holding (wpAny_bind (wpAny_bind (I.type.here ((PySem.W.looks_findIn kin at_).here ?_))))
  rw [if_neg (show ¬ (some (Value.ref f) == some Value.none) = true from by simp)]
  exact wpAny_bind (PySem.W.unlessNone_K kin I at_ fn h)
def inOp (neg : Bool) : CmpOp := if neg then .NotIn else .In
theorem own_in {neg : Bool} {M : Model} {A : Around} {E : Value → Shared → Prop} {s : Shared} {K : PySem.W.Frag} {a C f : Addr} {ox : Obj} {od : Option Obj} {u : Value} {Q : Value → Shared → Prop} (kin : K.In s.heap) (I : PySem.W.InstAt s.heap a ox C od) (at_ : PySem.W.findIn K (.ref C) "__contains__" = some (some (.ref f))) (fn : PySem.W.isFn K (.ref f) = true)
    (h : wpAny M A (call (.ref f) [.ref a, u]) (fun t s' => wpAny M A (truthy t) (fun b s2 => Q (.bool (if neg then !b else b)) s2) E s') E s) : wpAny M A (compareOp (inOp neg) u (.ref a)) Q E s := by
  cases neg with
  | true => exact wpAny_bind (own_contains kin I at_ fn (wpAny_mono h (fun _ _ z => wpAny_mono z (fun _ _ z => wpAny_pure z) fun _ _ z => z) fun _ _ z => z))
  | false => exact wpAny_bind (own_contains kin I at_ fn (wpAny_mono h (fun _ _ z => wpAny_mono z (fun _ _ z => wpAny_pure z) fun _ _ z => z) fun _ _ z => z))
/-- the rest of the evaluator's reading -/
def ownK (C : Cxt) (rs : List Nat) (neg : Bool) (m : Nat) (x y : D) (S2 : Sto) : Out D := match objOf S2 y with
  | some (c, _, _) => match C.cl.mth c m with
    | some g => match C.pars g with
      | some ([_, _], []) => (doCall C rs false g [y, x] S2).bind fun t S3 => match truth S3 t with
        | some b => .ok (.bl (if neg then !b else b)) S3
        | none => .bad
      | _ => .bad
    | none => .bad
  | none => .bad
theorem ev_own {C : Cxt} {neg : Bool} {a o : CE} {m : Nat} {F : Fr} {S : Sto} : ev C rs (.own neg a o m) F S = (ev C rs a F S).bind fun x S1 => (ev C rs o F S1).bind fun y S2 => ownK C rs neg m x y S2 := by
  simp only [ev]
  rfl
/-- the operator -/
theorem own_run {neg : Bool} {m : Nat} {pins : List (Addr × Obj)} {s : Shared} {st : L2.St} {H : Hp} {Q : VK} {r : List Addr} {S : Sto} {x y : D} {xv yv : V} {u v : Value} {C : Cxt} {T : Sta} (ok : XOk R N c X) (wd : WldX R T c C X) (tk : Takes X W) (hm : nmAt T.an m = ("__contains__" : Str)) (hsh : ∀ c g, C.cl.mth c m = some g → (2, ([] : List Nat)) ∈ T.shp g)
    (I : Inv X pins st H s) (h : RS R rs r S H) (qx : Rep R r H x xv) (qy : Rep R r H y yv) (rx : RelV xv u) (ry : RelV yv v) (hs : Sat R W rs st r H (Rep R) (ownK C rs neg m x y S) Q) :
    wpAny (model X.prog X.w) X.A (compareOp (inOp neg) u v) (fun z s' => ∃ b H', Inv X pins st H' s' ∧ z = .bool b ∧ Q (.bl b) H') X.xe s := by
  unfold ownK at hs
  split at hs
  · rename_i k ns vs eo
    obtain ⟨a, dx, fs, rfl, ea, mm, g⟩ := obj_at h qy eo
    obtain rfl : v = Value.ref a := ry
    split at hs
    · rename_i gd em
      obtain ⟨⟨FD, hfd⟩, cl, mt⟩ := wd.mth k m gd em
      obtain ⟨kk, fd, dvs, dw, c2, c3, c4, c5, c6, c7⟩ := wd.call gd FD hfd
      rw [wd.pars gd, hfd] at hs
      simp only [Option.map_some] at hs
      split at hs
      · rename_i p1 p2 epp
        have e1 : FD.ps = [p1, p2] ∧ FD.dv = [] := Prod.mk.inj (Option.some.inj epp)
        have dv0 : dvs = [] := by
          have := c5 [] [] (fun _ => none)
          rw [e1.2] at this
          cases this
          rfl
        subst dv0
        cases c6
        obtain ⟨mA, O, _, _, _, _⟩ := ins_get I.hok ea
        obtain ⟨od, J, _⟩ := O.look
        have at_ : PySem.W.findIn X.K (.ref (R.cadr k)) "__contains__" = some (some (.ref (R.fadr gd))) := by
          have := mt.at_
          rw [wd.an, hm] at this
          exact this
        refine own_in I.kIn J at_ mt.fn ?_
        have sp := do_sat (T := T) (F := FD) (Q := fun t H3 => ∃ b, TruV X.K t H3 b ∧ Q (.bl (if neg then !b else b)) H3) (W := W) (st := st) (by rw [e1.1]; rfl) h (.cons qy (.cons qx .nil)) (by
          cases e : doCall C rs false gd [y, x] S with
          | bad => rw [e] at hs; exact hs.elim
          | exc z S1 => rw [e] at hs; exact hs
          | ok t S1 =>
            rw [e] at hs
            simp only [Out.bind] at hs
            intro r' H' tv e' h' qt
            split at hs
            · rename_i b eb
              rw [ok.K]
              exact ⟨b, truth_of h' qt eb, hs r' H' _ e' h' (.bl _)⟩
            · exact hs.elim)
        have sh := c7 _ (hsh k gd em)
        refine thn (fn_run (us := [.ref a, u]) (vs := [.ref a, xv]) (ws := []) (kv := []) (kn := []) c3 (c4.mono (Nat.le_succ kk)) tk .nil sh I (.cons rfl (.cons rx .nil)) .nil rfl (by rw [e1.1]; rfl) sp) fun t s1 ⟨tv, H1, I1, rt, b, tb, q⟩ => ?_
        exact thn (tru_ok pins s1 st H1 tv t (fun b H => Q (.bl (if neg then !b else b)) H) I1 rt ⟨b, tb, q⟩) fun b' s2 ⟨H', I', q'⟩ => ⟨_, H', I', rfl, q'⟩
      · exact hs.elim
    · exact hs.elim
  · exact hs.elim
theorem se_own {neg : Bool} {a o : CE} {m : Nat} {ea eo : Expr} {pos : Pos} {C : Cxt} {T : Sta} (ok : XOk R N c X) (wd : WldX R T c C X) (tk : Takes X W) (ha : SE R W rs X ea (ev C rs a)) (ho : SE R W rs X eo (ev C rs o)) (ns : noSet eo = true) (hm : nmAt T.an m = ("__contains__" : Str)) (hsh : ∀ c g, C.cl.mth c m = some g → (2, ([] : List Nat)) ∈ T.shp g) :
    SE R W rs X (.Compare ea [inOp neg] [eo] pos) (ev C rs (.own neg a o m)) := by
  refine ⟨fun pins s st H Q I ⟨r, F, S, h, hF, hs⟩ => ?_⟩
  rw [ev_own] at hs
  refine wpAny_Compare1 (binT (R := fun xv yv H2 => ∃ r2 S2 x y, RS R rs r2 S2 H2 ∧ Rep R r2 H2 x xv ∧ Rep R r2 H2 y yv ∧ Sat R W rs st r2 H2 (Rep R) (ownK C rs neg m x y S2) Q) ha ho I (bindG h hF hs fun r1 S1 H1 x xv e1 h1 hF1 qx hs => bindG h1 hF1 hs fun r2 S2 H2 y yv e2 h2 hF2 qy hs => ⟨r2, S2, x, y, h2, qx.ext e2, qy, hs⟩) fun u v s2 xv yv H2 I2 rx ry ⟨r2, S2, x, y, h2, qx, qy, hs⟩ => ?_) (behind_of ns)
  exact thn (own_run ok wd tk hm hsh I2 h2 qx qy rx ry hs) fun z s3 ⟨b, H3, I3, ez, q⟩ => ⟨.bl b, H3, I3, ez, q⟩
theorem ownK_bl {C : Cxt} {neg : Bool} {m : Nat} {x y d : D} {S S' : Sto} (e : ownK C rs neg m x y S = .ok d S') : ∃ b, d = .bl b := by
  unfold ownK at e
  split at e
  · split at e
    · split at e
      · cases e2 : doCall C rs false _ [y, x] S with
        | ok t S3 =>
          rw [e2] at e
          simp only [Out.bind] at e
          split at e
          · cases e; exact ⟨_, rfl⟩
          · cases e
        | exc _ _ => rw [e2] at e; cases e
        | bad => rw [e2] at e; cases e
      · cases e
    · cases e
  · cases e
theorem st_own {neg : Bool} {a o : CE} {m : Nat} {ea eo : Expr} {pos : Pos} {C : Cxt} {T : Sta} (ok : XOk R N c X) (wd : WldX R T c C X) (tk : Takes X W) (ha : SE R W rs X ea (ev C rs a)) (ho : SE R W rs X eo (ev C rs o)) (ns : noSet eo = true) (hm : nmAt T.an m = ("__contains__" : Str)) (hsh : ∀ c g, C.cl.mth c m = some g → (2, ([] : List Nat)) ∈ T.shp g) :
    ST R W rs X (.Compare ea [inOp neg] [eo] pos) (fun F S => tst (ev C rs (.own neg a o m) F S)) := by
  refine ⟨fun pins s st H Q I ⟨r, F, S, h, hF, hs⟩ => ?_⟩
  have hs : Sat R W rs st r H eqB (tst (ev C rs (.own neg a o m) F S)) Q := hs
  rw [ev_own] at hs
  unfold tst at hs
  rw [Out.bind_assoc] at hs
  refine wpAny_isTrue_Compare1 (thn (ha.run pins s st H (fun xv H1 => ∃ r1 S1 x, RS R rs r1 S1 H1 ∧ RF R r1 H1 F st ∧ Rep R r1 H1 x xv ∧ Sat R W rs st r1 H1 eqB ((((ev C rs o F S1).bind fun y S2 => ownK C rs neg m x y S2)).bind fun x S1 => match truth S1 x with
    | some b => .ok b S1
    | none => .bad) Q) I (bindG h hF hs fun r1 S1 H1 x xv e1 h1 hF1 qx hs => ⟨r1, S1, x, h1, hF1, qx, hs⟩)) fun u s1 ⟨xv, H1, I1, rx, r1, S1, x, h1, hF1, qx, hs⟩ => ?_) (behind_of ns)
  rw [Out.bind_assoc] at hs
  refine thn (ho.run pins s1 st H1 (fun yv H2 => ∃ r2 S2 y, RS R rs r2 S2 H2 ∧ Rep R r2 H2 x xv ∧ Rep R r2 H2 y yv ∧ Sat R W rs st r2 H2 eqB ((ownK C rs neg m x y S2).bind fun x S1 => match truth S1 x with
    | some b => .ok b S1
    | none => .bad) Q) I1 (bindG h1 hF1 hs fun r2 S2 H2 y yv e2 h2 hF2 qy hs => ⟨r2, S2, y, h2, qx.ext e2, qy, hs⟩)) fun v s2 ⟨yv, H2, I2, ry, r2, S2, y, h2, qx2, qy, hs⟩ => ?_
  refine thn (own_run (Q := fun z H3 => ∃ b, z = .bl b ∧ Q b H3) ok wd tk hm hsh I2 h2 qx2 qy rx ry ?_) fun z s3 ⟨b, H3, I3, ez, b', e, q⟩ => ?_
  · cases e : ownK C rs neg m x y S2 with
    | bad => rw [e] at hs; exact hs.elim
    | exc z S1 => rw [e] at hs; exact hs
    | ok d S3 =>
      obtain ⟨b, rfl⟩ := ownK_bl e
      rw [e] at hs
      intro r' H' v' e' h' qv
      cases qv
      exact ⟨b, rfl, hs r' H' b e' h' rfl⟩
  · cases e
    rw [ez]
    exact wpAny_truthy_bool ⟨H3, I3, q⟩

/-! ### displays with stars -/
theorem sd_nil {C : Cxt} {sts : List Bool} : SA R W rs X [] (evD C rs [] sts) := by
  refine pa_nil.imp fun st H Q ⟨r, F, S, h, hF, hs⟩ => ?_
  simp only [evD] at hs
  exact Sat.fin hs h .nil
theorem sd_cons {a : CE} {as : List CE} {sts : List Bool} {ea : Expr} {es : List Expr} {C : Cxt} (ha : SE R W rs X ea (ev C rs a)) (hs : SA R W rs X es (evD C rs as sts.tail)) (ns : noStar ea = true) (hb : sts.headD false = false) : SA R W rs X (ea :: es) (evD C rs (a :: as) sts) := by
  refine (pa_cons ha hs (star_of ns)).imp fun st H Q ⟨r, F, S, h, hF, hs⟩ => ?_
  simp only [evD, hb] at hs
  refine bindG h hF hs fun r1 S1 H1 x xv e1 h1 hF1 qx hs => ?_
  simp only [Bool.false_eq_true, if_false] at hs
  exact bindG h1 hF1 hs fun r2 S2 H2 xs vs e2 h2 hF2 qs hs => Sat.fin hs h2 (.cons (qx.ext e2) qs)
theorem sd_star {a : CE} {as : List CE} {sts : List Bool} {ea : Expr} {p : Pos} {es : List Expr} {C : Cxt} (ok : XOk R N c X) (ha : SE R W rs X ea (ev C rs a)) (hs : SA R W rs X es (evD C rs as sts.tail)) (hb : sts.headD false = true) : SA R W rs X (.Starred ea p :: es) (evD C rs (a :: as) sts) := by
  refine (StX.pa_star (p := p) ha hs).imp fun st H Q ⟨r, F, S, h, hF, hs⟩ => ?_
  simp only [evD, hb] at hs
  refine bindG h hF hs fun r1 S1 H1 x xv e1 h1 hF1 qx hs => ?_
  simp only [if_true] at hs
  split at hs
  · rename_i xs e
    obtain ⟨p, vs, rfl, hv, g⟩ := seq_of h1 qx e
    refine ⟨p, vs, rfl, by rw [ok.K]; exact hv.symm, bindG h1 hF1 hs fun r2 S2 H2 ys us e2 h2 hF2 qs hs => Sat.fin hs h2 ((g.ext e2).append qs)⟩
  · exact hs.elim
theorem se_dspT {mu : Bool} {as : List CE} {sts : List Bool} {es : List Expr} {k : Nat} {pos : Pos} {C : Cxt} (hs : SA R W rs X es (evD C rs as sts)) : SE R W rs X (.Tuple es k pos) (ev C rs (.dsp true mu as sts)) := by
  refine (pe_tup (pos := pos) hs).imp fun st H Q ⟨r, F, S, h, hF, hs⟩ => ?_
  simp only [ev] at hs
  refine bindG h hF hs fun r1 S1 H1 xs vs e1 h1 hF1 qs hs => ?_
  simp only [if_true] at hs
  obtain ⟨hl, hs⟩ := okIf_sat hs
  exact ⟨by rw [← qs.length, ← line_eq]; exact of_decide_eq_true hl, hs.newT h1 qs⟩
theorem se_dspL {mu : Bool} {as : List CE} {sts : List Bool} {es : List Expr} {pos : Pos} {C : Cxt} (hs : SA R W rs X es (evD C rs as sts)) : SE R W rs X (.List es pos) (ev C rs (.dsp false mu as sts)) := by
  refine (pe_lst (pos := pos) hs).imp fun st H Q ⟨r, F, S, h, hF, hs⟩ => ?_
  simp only [ev] at hs
  refine bindG h hF hs fun r1 S1 H1 xs vs e1 h1 hF1 qs hs => ?_
  simp only [Bool.false_eq_true, if_false] at hs
  exact hs.mkL h1 qs

/-! ### how many different texts -/
def keyS (x : List Nat) : Key := .inr (mkS x)
theorem mkS_inj2 {x y : List Nat} (e : mkS x = mkS y) : x = y := by
  have := congrArg (fun z : Str => z.cps.toList) e
  simpa [mkS] using this
theorem kin_keyS (x : List Nat) : ∀ l : List (List Nat), kin (keyS x) (l.map keyS) = l.contains x
  | [] => rfl
  | y :: l => by
    have ih := kin_keyS x l
    unfold kin at ih ⊢
    rw [List.map_cons, List.any_cons, List.contains_cons, ih]
    congr 1
    by_cases h : x = y
    · subst h
      rw [decide_eq_true rfl, beq_self_eq_true]
    · rw [beq_eq_false_iff_ne.mpr h]
      exact decide_eq_false fun z => h (mkS_inj2 (Sum.inr.inj z)).symm
theorem fcnt_keyS : ∀ (l sn : List (List Nat)), fcnt (sn.map keyS) (l.map keyS) = distT sn l
  | [], _ => rfl
  | x :: l, sn => by
    rw [List.map_cons]
    unfold fcnt distT
    rw [kin_keyS]
    have := fcnt_keyS l (sn ++ [x])
    rw [List.map_append] at this
    rw [show (sn.map keyS ++ [keyS x]) = sn.map keyS ++ List.map keyS [x] from rfl, this]
theorem se_dist {a : CE} {iter : Expr} {v x : Str} {p pe pv spos pos : Pos} {scope : Scope} {C : Cxt} {T : Sta} (ok : XOk R N c X) (nh : c.hot = false) (wd : WldX R T c C X) (ha : SE R W rs X iter (ev C rs a)) (hx : x = ("len" : Str)) (hg : chkGl c.sc x = true) (hb : x ∈ T.bl) (hall : ∀ y ∈ scope.names, y.2 = .local ∧ scope.names.lookup y.1 = some .local) (hvl : scope.names.lookup v = some .local) (hk : scope.kind = .function) (hd : (v == ("__debug__" : Str)) = false) (ns : noSet iter = true) :
    SE R W rs X (.Call (.Name x p) [.SetComp (.Name v pe) [⟨.Name v pv, iter, [], 0⟩] scope spos] [] pos) (ev C rs (.dist a)) := by
  obtain ⟨g1, g2⟩ := gl_of ok hg
  have hv : bootBuiltins x = some (.builtin "len") := by rw [hx]; exact bi_boot .len
  refine (pe_callB (pos := pos) (p := p) cr_lenK g1 (wd.bl x hb) hv (pa_cons (pe_dset (pe := pe) (pv := pv) (pos := spos) (ok.calm nh) ha hall hvl hk hd (folded_of ns)) pa_nil rfl) (by rw [hx]; decide +kernel) g2 rfl rfl).imp fun st H Q ⟨r, F, S, h, hF, hs⟩ => ?_
  simp only [ev] at hs
  refine bindG h hF hs fun r1 S1 H1 y yv e1 h1 hF1 qy hs => ?_
  split at hs
  · rename_i ts e
    split at hs
    · rename_i hl
      cases e1 : seqOf S1 y with
      | none => rw [e1] at e; cases e
      | some xs =>
        rw [e1] at e
        obtain ⟨l, vs, rfl, hv, g⟩ := seq_of h1 qy e1
        obtain ⟨e2, okt⟩ := texts_of g e
        have e3 : vs = (ts.map keyS).map kV := by
          rw [e2, List.map_map, List.map_map]
          rfl
        refine ⟨l, ts.map keyS, rfl, by rw [ok.K, ← e3]; exact hv, by rw [List.length_map]; exact hl, fun q n => ⟨q, _, _, rfl, upd_same, ?_⟩⟩
        rw [show fcnt [] (ts.map keyS) = distT [] ts from fcnt_keyS ts []]
        exact hs r1 _ _ (.fresh n) (h1.fresh n) (.int _)
    · exact hs.elim
  · exact hs.elim
end
end OM
set_option Elab.async false
set_option linter.all false
set_option maxRecDepth 100000
set_option maxHeartbeats 1000000
/-! OmIter: what is walked; list comprehensions. -/
namespace OM
open PySem PySem.Spec PyProof.Rows L2

section
variable {R : RP} {r : List Addr} {H : Hp}
/-- lists that come to be made later hide nothing -/
def Later (R : RP) (H : Hp) (hid : List Addr) : Prop := ∀ a ∈ hid, a ∈ R.hid ∨ H a = none
theorem Fre.later {hid : List Addr} {a : Addr} {o : HO} (f : Fre R r a) (l : Later R H hid) (e : H a = some o) : Fre (R.h hid) r a := ⟨f.1, fun m => by
  rcases l a m with q | q
  · exact f.2 q
  · rw [e] at q; cases q⟩
theorem FzT.later {hid : List Addr} {a : Addr} {xs : List V} (f : FzT R r H a xs) (l : Later R H hid) : FzT (R.h hid) r H a xs := by
  rcases f with ⟨f | ⟨o, f⟩, n⟩ | f
  · exact .inl ⟨.inl f, n.later l f⟩
  · exact .inl ⟨.inr ⟨o, f⟩, n.later l f⟩
  · exact .inr f
theorem FzL.later {hid : List Addr} {a : Addr} {xs : List V} (f : FzL R r H a xs) (l : Later R H hid) : FzL (R.h hid) r H a xs := by
  rcases f with ⟨f | ⟨o, f⟩, n⟩ | f
  · exact .inl ⟨.inl f, n.later l f⟩
  · exact .inl ⟨.inr ⟨o, f⟩, n.later l f⟩
  · exact .inr f
mutual
theorem Rep.later {hid : List Addr} (l : Later R H hid) : ∀ {d : D} {v : V}, Rep R r H d v → Rep (R.h hid) r H d v
  | _, _, .non => .non
  | _, _, .bl b => .bl b
  | _, _, .int i => .int i
  | _, _, .str x => .str x
  | _, _, .tup f h => .tup (f.later l) (Reps.later l h)
  | _, _, .lst q n h => .lst q (n.later l q) (Reps.later l h)
  | _, _, .frz f => .frz (f.later l)
  | _, _, .obj q n k h => .obj q (n.later l q) k (Reps.later l h)
  | _, _, .exc q q2 n n2 k h => .exc q q2 (n.later l q) (n2.later l q2) k (Reps.later l h)
  | _, _, .pin p q2 n2 k h => .pin p q2 (n2.later l q2) k (Reps.later l h)
  | _, _, .ref h => .ref h
  | _, _, .fn k => .fn k
  | _, _, .cls k => .cls k
  | _, _, .ty k => .ty k
theorem Reps.later {hid : List Addr} (l : Later R H hid) : ∀ {ds : List D} {vs : List V}, Reps R r H ds vs → Reps (R.h hid) r H ds vs
  | _, _, .nil => .nil
  | _, _, .cons h t => .cons (h.later l) (Reps.later l t)
end
end

/-- from one state to a later one, what is being made aside -/
structure ExtB (R : RP) (r : List Addr) (H : Hp) (r' : List Addr) (H' : Hp) : Prop where
  old : ∀ n, n < r.length → r'[n]? = r[n]?
  keep : ∀ a o, H a = some o → Fre R r a → notT o = true → H' a = some o
  new : ∀ a, a ∈ r' → a ∈ r ∨ ∀ o, H a = some o → notT o = false
theorem Ext.b {R : RP} {r r' : List Addr} {H H' : Hp} (e : Ext r H r' H') : ExtB R r H r' H' := ⟨e.old, fun a o q f t => e.keep a o q f.1 t, e.new⟩
section
variable {R : RP} {r r' r'' : List Addr} {H H' H'' : Hp}
theorem ExtB.refl : ExtB R r H r H := (Ext.refl r H).b
theorem ExtB.fre {a : Addr} {o : HO} (e : ExtB R r H r' H') (h : H a = some o) (n : Fre R r a) (t : notT o = true) : Fre R r' a := by
  refine ⟨fun z => ?_, n.2⟩
  rcases e.new a z with q | q
  · exact n.1 q
  · rw [q o h] at t
    cases t
theorem ExtB.len (e : ExtB R r H r' H') : r.length ≤ r'.length := by
  cases h : r.length with
  | zero => exact Nat.zero_le _
  | succ k =>
    have q := e.old k (by omega)
    have h1 : k < r.length := by omega
    rw [List.getElem?_eq_getElem h1] at q
    have := (List.getElem?_eq_some_iff.mp q).1
    omega
theorem FzT.extB {a : Addr} {xs : List V} (h : FzT R r H a xs) (e : ExtB R r H r' H') : FzT R r' H' a xs := by
  rcases h with ⟨h | ⟨o, h⟩, n⟩ | h
  · exact .inl ⟨.inl (e.keep _ _ h n rfl), e.fre h n rfl⟩
  · exact .inl ⟨.inr ⟨o, e.keep _ _ h n rfl⟩, e.fre h n rfl⟩
  · exact .inr h
theorem FzL.extB {a : Addr} {xs : List V} (h : FzL R r H a xs) (e : ExtB R r H r' H') : FzL R r' H' a xs := by
  rcases h with ⟨h | ⟨o, h⟩, n⟩ | h
  · exact .inl ⟨.inl (e.keep _ _ h n rfl), e.fre h n rfl⟩
  · exact .inl ⟨.inr ⟨o, e.keep _ _ h n rfl⟩, e.fre h n rfl⟩
  · exact .inr h
mutual
theorem Rep.extB : ∀ {d : D} {v : V}, Rep R r H d v → ExtB R r H r' H' → Rep R r' H' d v
  | _, _, .non, _ => .non
  | _, _, .bl b, _ => .bl b
  | _, _, .int i, _ => .int i
  | _, _, .str x, _ => .str x
  | _, _, .tup f h, e => .tup (f.extB e) (Reps.extB h e)
  | _, _, .lst q n h, e => .lst (e.keep _ _ q n rfl) (e.fre q n rfl) (Reps.extB h e)
  | _, _, .frz f, e => .frz (f.extB e)
  | _, _, .obj q n m h, e => .obj (e.keep _ _ q n rfl) (e.fre q n rfl) m (Reps.extB h e)
  | _, _, .exc q q2 n n2 m h, e => .exc (e.keep _ _ q n rfl) (e.keep _ _ q2 n2 rfl) (e.fre q n rfl) (e.fre q2 n2 rfl) m (Reps.extB h e)
  | _, _, .pin p q2 n2 m h, e => .pin p (e.keep _ _ q2 n2 rfl) (e.fre q2 n2 rfl) m (Reps.extB h e)
  | _, _, .ref h, e => .ref ((e.old _ (List.getElem?_eq_some_iff.mp h).1).trans h)
  | _, _, .fn k, _ => .fn k
  | _, _, .cls k, _ => .cls k
  | _, _, .ty k, _ => .ty k
theorem Reps.extB : ∀ {ds : List D} {vs : List V}, Reps R r H ds vs → ExtB R r H r' H' → Reps R r' H' ds vs
  | _, _, .nil, _ => .nil
  | _, _, .cons h t, e => .cons (h.extB e) (Reps.extB t e)
end
theorem RF.extB {F : Fr} {st : L2.St} (h : RF R r H F st) (e : ExtB R r H r' H') : RF R r' H' F st :=
  ⟨h.len, fun i d q => let ⟨v, a, b⟩ := h.at_ i d q; ⟨v, a, b.extB e⟩⟩
end

/-- J serves what src tells, from the state r0, H0 on -/
def Srv (R : RP) (rs : List Nat) (src : Src) (J : It) (r0 : List Addr) (H0 : Hp) : Prop :=
  ∀ (hid r : List Addr) (S : Sto) (H : Hp) (i : Nat), Later R H0 hid → ExtB (R.h hid) r0 H0 r H → RS (R.h hid) rs r S H →
    (∀ d, srcAt S src i = some (some d) → J.go i H ∧ ∀ x H', J.yld i H x H' → Ext r H r H' ∧ RS (R.h hid) rs r S H' ∧ Rep (R.h hid) r H' d x) ∧ (srcAt S src i = some none → J.stop i H)

section
variable {R : RP} {rs : List Nat} {r : List Addr} {S : Sto} {H : Hp}
theorem items_at {xs : List D} {i : Nat} {S : Sto} {o : Option D} (e : srcAt S (.items xs) i = some o) : xs[i]? = o := Option.some.inj e
theorem Reps.at {ds : List D} {vs : List V} (g : Reps R r H ds vs) {i : Nat} {d : D} {v : V} (e : ds[i]? = some d) (f : vs[i]? = some v) : Rep R r H d v := by
  obtain ⟨u, h1, h2⟩ := g.get e
  rw [f] at h1
  cases h1
  exact h2
theorem srv_list {a : Addr} {ds : List D} {vs : List V} (ha : H a = some (.lst vs)) (fr : Fre R r a) (g : Reps R r H ds vs) : Srv R rs (.items ds) (Itl R.K a) r H := by
  intro hid r1 S1 H1 i l e h1
  have ha1 := e.keep _ _ ha (fr.later l ha) rfl
  have g1 : Reps (R.h hid) r1 H1 ds vs := (g.later l).extB e
  refine ⟨fun d ed => ?_, fun en => ?_⟩
  · have ed := items_at ed
    obtain ⟨v, ev, _⟩ := g1.get ed
    refine ⟨⟨vs, v, .of ha1, ev⟩, fun x H' ⟨e1, e2⟩ => ?_⟩
    subst e1
    exact ⟨.refl _ _, h1, g1.at ed (e2 vs (.of ha1))⟩
  · have en := items_at en
    refine ⟨vs, .of ha1, ?_⟩
    rw [← g.length]
    exact List.getElem?_eq_none_iff.mp en
theorem srv_tup {a : Addr} {ds : List D} {vs : List V} (ha : FzT R r H a vs) (g : Reps R r H ds vs) : Srv R rs (.items ds) (Itt R.K a) r H := by
  intro hid r1 S1 H1 i l e h1
  have ha1 : SqT R.K H1 a vs := ((ha.later l).extB e).sq
  have g1 : Reps (R.h hid) r1 H1 ds vs := (g.later l).extB e
  refine ⟨fun d ed => ?_, fun en => ?_⟩
  · have ed := items_at ed
    obtain ⟨v, ev, _⟩ := g1.get ed
    refine ⟨⟨vs, v, ha1, ev⟩, fun x H' ⟨e1, e2⟩ => ?_⟩
    subst e1
    exact ⟨.refl _ _, h1, g1.at ed (e2 vs ha1)⟩
  · have en := items_at en
    refine ⟨vs, ha1, ?_⟩
    rw [← g.length]
    exact List.getElem?_eq_none_iff.mp en
theorem srv_cell {n k : Nat} {a : Addr} (ha : r[n]? = some a) : Srv R rs (.cell n k) (Itl R.K a) r H := by
  intro hid r1 S1 H1 i l e h1
  have ha1 : r1[n]? = some a := (e.old n (List.getElem?_eq_some_iff.mp ha).1).trans ha
  obtain ⟨c, o, e1, e2, e3⟩ := h1.at ha1
  have key : ∀ o', srcAt S1 (.cell n k) i = some o' → ∃ ds vs, c = .lst ds ∧ o = .lst vs ∧ Reps (R.h hid) r1 H1 ds vs ∧ ds[i]? = o' := by
    intro o' q
    simp only [srcAt, e1] at q
    cases e3 with
    | lst g =>
      dsimp only at q
      split at q
      · exact ⟨_, _, rfl, rfl, g, Option.some.inj q⟩
      · cases q
    | obj _ _ => cases q
  refine ⟨fun d ed => ?_, fun en => ?_⟩
  · obtain ⟨ds, vs, rfl, rfl, g, ei⟩ := key _ ed
    obtain ⟨v, ev, _⟩ := g.get ei
    refine ⟨⟨vs, v, .of e2, ev⟩, fun x H' ⟨q1, q2⟩ => ?_⟩
    subst q1
    exact ⟨.refl _ _, h1, g.at ei (q2 vs (.of e2))⟩
  · obtain ⟨ds, vs, rfl, rfl, g, ei⟩ := key _ en
    refine ⟨vs, .of e2, ?_⟩
    rw [← g.length]
    exact List.getElem?_eq_none_iff.mp ei
theorem srv_str {x : List Nat} (hx : okS x = true) : Srv R rs (.items (x.map fun c => .str [c])) (Its (mkS x)) r H := by
  intro hid r1 S1 H1 i l e h1
  have hsz : (mkS x).cps.size = x.length := by simp [mkS]
  refine ⟨fun d ed => ?_, fun en => ?_⟩
  · have ed := items_at ed
    rw [List.getElem?_map] at ed
    cases ei : x[i]? with
    | none => rw [ei] at ed; cases ed
    | some c =>
      rw [ei] at ed
      cases ed
      have hi := (List.getElem?_eq_some_iff.mp ei).1
      refine ⟨by show i < (mkS x).cps.size; rw [hsz]; exact hi, fun y H' ⟨e1, c', e2, e3⟩ => ?_⟩
      subst e1
      subst e3
      have ec : c' = c := by
        have q : (mkS x).cps[i]? = some c := by simpa [mkS] using ei
        rw [q] at e2
        exact (Option.some.inj e2).symm
      subst ec
      refine ⟨.refl _ _, h1, ?_⟩
      exact Rep.str (x := [c']) (okS_mk (by show 1 ≤ line; unfold line; omega) fun z hz => by
        rw [List.mem_singleton] at hz
        subst hz
        exact okS_all hx _ (List.mem_of_getElem? ei))
  · have en := items_at en
    rw [List.getElem?_map] at en
    show (mkS x).cps.size ≤ i
    rw [hsz]
    cases ei : x[i]? with
    | none => exact List.getElem?_eq_none_iff.mp ei
    | some c => rw [ei] at en; cases en
theorem rangeD_at (a : Int) : ∀ (n i : Nat), (rangeD a n)[i]? = if i < n then some (.int (a + i)) else none
  | 0, i => by simp [rangeD]
  | n + 1, 0 => by simp [rangeD]
  | n + 1, i + 1 => by
    unfold rangeD
    rw [List.getElem?_cons_succ, rangeD_at (a + 1) n i]
    by_cases h : i < n
    · rw [if_pos h, if_pos (by omega)]
      congr 2
      omega
    · rw [if_neg h, if_neg (by omega)]
theorem srv_range {a : Int} {n : Nat} : Srv R rs (.items (rangeD a n)) (Itr a n) r H := by
  intro hid r1 S1 H1 i l e h1
  refine ⟨fun d ed => ?_, fun en => ?_⟩
  · have ed := items_at ed
    rw [rangeD_at] at ed
    by_cases hi : i < n
    · rw [if_pos hi] at ed
      cases ed
      refine ⟨hi, fun y H' ⟨e1, e2⟩ => ?_⟩
      subst e1
      subst e2
      exact ⟨.refl _ _, h1, .int _⟩
    · rw [if_neg hi] at ed; cases ed
  · have en := items_at en
    rw [rangeD_at] at en
    by_cases hi : i < n
    · rw [if_pos hi] at en; cases en
    · exact Nat.le_of_not_lt hi
theorem zipD_at : ∀ (xs ys : List D) (i : Nat), (zipD xs ys)[i]? = (match xs[i]?, ys[i]? with | some x, some y => some (.tup [x, y]) | _, _ => none)
  | [], _, i => by simp [zipD]
  | _ :: _, [], i => by
    simp only [zipD, List.getElem?_nil]
    split
    · rename_i h; cases h
    · rfl
  | x :: xs, y :: ys, 0 => rfl
  | x :: xs, y :: ys, i + 1 => by
    unfold zipD
    rw [List.getElem?_cons_succ, List.getElem?_cons_succ, List.getElem?_cons_succ, zipD_at xs ys i]
theorem new_pair {hid r1 : List Addr} {S1 : Sto} {H1 : Hp} {d f : D} {x y : V} {q : Addr} (h1 : RS (R.h hid) rs r1 S1 H1) (n : H1 q = none) (qx : Rep (R.h hid) r1 H1 d x) (qy : Rep (R.h hid) r1 H1 f y) :
    Ext r1 H1 r1 (upd H1 q (.tup [x, y])) ∧ RS (R.h hid) rs r1 S1 (upd H1 q (.tup [x, y])) ∧ Rep (R.h hid) r1 (upd H1 q (.tup [x, y])) (.tup [d, f]) (.ref q) :=
  ⟨.fresh n, h1.fresh n, .tup (.inl ⟨.inl upd_same, h1.fre n⟩) (.cons (qx.ext (.fresh n)) (.cons (qy.ext (.fresh n)) .nil))⟩
theorem zip_none {xs ys : List D} {vs us : List V} (g : Reps R r H xs vs) (g2 : Reps R r H ys us) {i : Nat} (e : (zipD xs ys)[i]? = none) : vs.length ≤ i ∨ us.length ≤ i := by
  rw [zipD_at] at e
  cases e1 : xs[i]? with
  | none => exact .inl (by rw [← g.length]; exact List.getElem?_eq_none_iff.mp e1)
  | some x =>
    cases e2 : ys[i]? with
    | none => exact .inr (by rw [← g2.length]; exact List.getElem?_eq_none_iff.mp e2)
    | some y => rw [e1, e2] at e; cases e
theorem zip_some {xs ys : List D} {i : Nat} {d : D} (e : (zipD xs ys)[i]? = some d) : ∃ x y, xs[i]? = some x ∧ ys[i]? = some y ∧ d = .tup [x, y] := by
  rw [zipD_at] at e
  cases e1 : xs[i]? with
  | none => rw [e1] at e; cases e
  | some x =>
    cases e2 : ys[i]? with
    | none => rw [e1, e2] at e; cases e
    | some y => rw [e1, e2] at e; cases e; exact ⟨x, y, rfl, rfl, rfl⟩
theorem srv_zip {a b : Addr} {xs ys : List D} {vs us : List V} (ha : H a = some (.lst vs)) (fa : Fre R r a) (ga : Reps R r H xs vs) (hb : H b = some (.lst us)) (fb : Fre R r b) (gb : Reps R r H ys us) : Srv R rs (.items (zipD xs ys)) (Itz R.K a b) r H := by
  intro hid r1 S1 H1 i l e h1
  have ha1 := e.keep _ _ ha (fa.later l ha) rfl
  have hb1 := e.keep _ _ hb (fb.later l hb) rfl
  have g1 : Reps (R.h hid) r1 H1 xs vs := (ga.later l).extB e
  have g2 : Reps (R.h hid) r1 H1 ys us := (gb.later l).extB e
  refine ⟨fun d ed => ?_, fun en => ?_⟩
  · obtain ⟨x, y, ex, ey, rfl⟩ := zip_some (items_at ed)
    obtain ⟨v, ev, _⟩ := g1.get ex
    obtain ⟨u, eu, _⟩ := g2.get ey
    refine ⟨⟨vs, us, v, u, .of ha1, .of hb1, ev, eu⟩, fun z H' ⟨q, v', u', e1, n, e2, e3, e4⟩ => ?_⟩
    subst e1; subst e2
    exact new_pair h1 n (g1.at ex (e3 vs (.of ha1))) (g2.at ey (e4 us (.of hb1)))
  · exact ⟨vs, us, .of ha1, .of hb1, zip_none g1 g2 (items_at en)⟩
theorem srv_zipT {a b : Addr} {xs ys : List D} {vs us : List V} (ha : FzT R r H a vs) (ga : Reps R r H xs vs) (hb : FzT R r H b us) (gb : Reps R r H ys us) : Srv R rs (.items (zipD xs ys)) (RZ.ItzT R.K a b) r H := by
  intro hid r1 S1 H1 i l e h1
  have ha1 : SqT R.K H1 a vs := ((ha.later l).extB e).sq
  have hb1 : SqT R.K H1 b us := ((hb.later l).extB e).sq
  have g1 : Reps (R.h hid) r1 H1 xs vs := (ga.later l).extB e
  have g2 : Reps (R.h hid) r1 H1 ys us := (gb.later l).extB e
  refine ⟨fun d ed => ?_, fun en => ?_⟩
  · obtain ⟨x, y, ex, ey, rfl⟩ := zip_some (items_at ed)
    obtain ⟨v, ev, _⟩ := g1.get ex
    obtain ⟨u, eu, _⟩ := g2.get ey
    refine ⟨⟨vs, us, v, u, ha1, hb1, ev, eu⟩, fun z H' ⟨q, v', u', e1, n, e2, e3, e4⟩ => ?_⟩
    subst e1; subst e2
    exact new_pair h1 n (g1.at ex (e3 vs ha1)) (g2.at ey (e4 us hb1))
  · exact ⟨vs, us, ha1, hb1, zip_none g1 g2 (items_at en)⟩
theorem enumD_at : ∀ (xs : List D) (k i : Nat), (enumD k xs)[i]? = (xs[i]?).map fun x => .tup [.int ((k + i : Nat) : Int), x]
  | [], k, i => by simp [enumD]
  | x :: xs, k, 0 => by simp [enumD]
  | x :: xs, k, i + 1 => by
    unfold enumD
    rw [List.getElem?_cons_succ, List.getElem?_cons_succ, enumD_at xs (k + 1) i, show k + 1 + i = k + (i + 1) by omega]
theorem srv_enum {a : Addr} {xs : List D} {vs : List V} (ha : H a = some (.lst vs)) (fa : Fre R r a) (ga : Reps R r H xs vs) : Srv R rs (.items (enumD 0 xs)) (Ite R.K a) r H := by
  intro hid r1 S1 H1 i l e h1
  have ha1 := e.keep _ _ ha (fa.later l ha) rfl
  have g1 : Reps (R.h hid) r1 H1 xs vs := (ga.later l).extB e
  refine ⟨fun d ed => ?_, fun en => ?_⟩
  · have ed := items_at ed
    rw [enumD_at] at ed
    cases ex : xs[i]? with
    | none => rw [ex] at ed; cases ed
    | some x =>
      rw [ex] at ed
      cases ed
      obtain ⟨v, ev, _⟩ := g1.get ex
      refine ⟨⟨vs, v, .of ha1, ev⟩, fun z H' ⟨q, v', e1, n, e2, e3⟩ => ?_⟩
      subst e1; subst e2
      rw [Nat.zero_add]
      exact new_pair h1 n (.int _) (g1.at ex (e3 vs (.of ha1)))
  · have en := items_at en
    rw [enumD_at] at en
    refine ⟨vs, .of ha1, ?_⟩
    rw [← ga.length]
    cases ex : xs[i]? with
    | none => exact List.getElem?_eq_none_iff.mp ex
    | some x => rw [ex] at en; cases en
end

/-! ### iterators by their expressions -/
section
variable {R : RP} {W : WX} {rs : List Nat} {X : Cx} {N : List Str} {c : Scp}
def SI (R : RP) (W : WX) (rs : List Nat) (X : Cx) (tg e : Expr) (g : Fr → Sto → Out Src) : Prop := PI X tg e (tG R W rs (fun r H s J => Srv R rs s J r H) g)
theorem PI.imp {tg e : Expr} {t t' : TI} (h : PI X tg e t) (k : ∀ st H Q, t' st H Q → t st H Q) : PI X tg e t' := ⟨fun pins s st H Q I q => h.run pins s st H Q I (k _ _ _ q)⟩
/-- a value that is walked -/
def iAny (K : PySem.W.Frag) (te : TE) : TI := fun st H R => te st H fun v H1 => (∃ a, v = .ref a ∧ (∃ xs, SqL K H1 a xs) ∧ R (Itl K a) H1) ∨ (∃ a, v = .ref a ∧ (∃ xs, SqT K H1 a xs) ∧ R (Itt K a) H1) ∨ ∃ x, v = .str x ∧ R (Its x) H1
theorem pi_any {tg e : Expr} {te : TE} (he : PE X e te) : PI X tg e (iAny X.K te) := by
  refine ⟨fun pins s st H R I h => thn (he.run pins s st H _ I h) fun v s1 ⟨x, H1, I1, r1, q1⟩ => ?_⟩
  rcases q1 with ⟨a, rfl, ⟨xs, hq⟩, q⟩ | ⟨a, rfl, ⟨xs, hq⟩, q⟩ | ⟨y, rfl, q⟩
  · cases r1
    obtain ⟨its, rv, p, hz⟩ := I1.list hq
    exact wpAny_pyIter_list p.isList (pi_one (tk := s1.toks) I1 _ (turn_list a _) ⟨_, Heap.get?_push_size _ rfl, rfl, rfl⟩ q)
  · cases r1
    obtain ⟨its, rv, p, hz⟩ := I1.tuple hq
    exact wpAny_pyIter_tuple (show s1.heap.IsTuple a its.toArray from p) (pi_one (tk := s1.toks) I1 _ (turn_tuple a _) ⟨_, Heap.get?_push_size _ rfl, rfl, rfl⟩ q)
  · obtain ⟨t, rfl⟩ := r1
    cases ha : y.cps.all (· < 128) with
    | false => exact wpAny_pyIter_wide ha (pi_one (tk := s1.toks) I1 _ (turn_str _ y t "str_iterator" (.inr rfl)) ⟨_, Heap.get?_push_size _ rfl, rfl, rfl⟩ q)
    | true => exact wpAny_pyIter_ascii ha (pi_one (tk := s1.toks) I1 _ (turn_str _ y t "str_ascii_iterator" (.inl rfl)) ⟨_, Heap.get?_push_size _ rfl, rfl, rfl⟩ q)
theorem si_ov {a : CE} {tg ea : Expr} {C : Cxt} (ok : XOk R N c X) (ha : SE R W rs X ea (ev C rs a)) : SI R W rs X tg ea (evI C rs (.ov a)) := by
  refine PI.imp (pi_any ha) fun st H Q ⟨r, F, S, h, hF, hs⟩ => ?_
  simp only [evI] at hs
  refine bindG h hF hs fun r1 S1 H1 x xv e1 h1 hF1 qx hs => ?_
  split at hs
  · rename_i src e
    rw [ok.K]
    cases qx with
    | tup f g => cases e; exact .inr (.inl ⟨_, rfl, ⟨_, f.sq⟩, hs.fin h1 (srv_tup f g)⟩)
    | lst q n g => cases e; exact .inl ⟨_, rfl, ⟨_, .of q⟩, hs.fin h1 (srv_list q n g)⟩
    | str hx => cases e; exact .inr (.inr ⟨_, rfl, hs.fin h1 (srv_str hx)⟩)
    | @ref n a z =>
      obtain ⟨c', o, e1', e2, e3⟩ := h1.at z
      simp only [iterOf, e1'] at e
      cases e3 with
      | lst g => cases e; exact .inl ⟨_, rfl, ⟨_, .of e2⟩, hs.fin h1 (srv_cell z)⟩
      | obj _ _ => cases e
    | _ => cases e
  · exact hs.elim
theorem si_rng1 {b : CE} {tg eb : Expr} {x : Str} {p pos : Pos} {C : Cxt} {T : Sta} (ok : XOk R N c X) (wd : WldX R T c C X) (hb : SE R W rs X eb (ev C rs b)) (hx : x = ("range" : Str)) (hg : chkGl c.sc x = true) (hbl : x ∈ T.bl) (ns : noStar eb = true) : SI R W rs X tg (.Call (.Name x p) [eb] [] pos) (evI C rs (.rng1 b)) := by
  subst hx
  obtain ⟨g1, g2⟩ := gl_of ok hg
  refine PI.imp (pi_range1 (pos := pos) (p := p) g1 (wd.bl _ hbl) (pa_cons hb pa_nil (star_of ns)) (star_of ns)) fun st H Q ⟨r, F, S, h, hF, hs⟩ => ?_
  simp only [evI] at hs
  refine bindG h hF hs fun r1 S1 H1 y yv e1 h1 hF1 qy hs => ?_
  split at hs
  · rename_i j
    cases qy
    split at hs
    · rename_i hj
      simp only [Bool.and_eq_true, decide_eq_true_eq] at hj
      exact ⟨j, rfl, by omega, by omega, hs.fin h1 srv_range⟩
    · exact hs.elim
  · exact hs.elim
theorem si_rng {a b : CE} {tg ea eb : Expr} {x : Str} {p pos : Pos} {C : Cxt} {T : Sta} (ok : XOk R N c X) (wd : WldX R T c C X) (ha : SE R W rs X ea (ev C rs a)) (hb : SE R W rs X eb (ev C rs b)) (hx : x = ("range" : Str)) (hg : chkGl c.sc x = true) (hbl : x ∈ T.bl) (n1 : noStar ea = true) (n2 : noStar eb = true) :
    SI R W rs X tg (.Call (.Name x p) [ea, eb] [] pos) (evI C rs (.rng a b)) := by
  subst hx
  obtain ⟨g1, g2⟩ := gl_of ok hg
  refine PI.imp (pi_range2 (pos := pos) (p := p) g1 (wd.bl _ hbl) (pa_cons ha (pa_cons hb pa_nil (star_of n2)) (star_of n1)) (by rw [star_of n1, star_of n2]; rfl) (star_of n2)) fun st H Q ⟨r, F, S, h, hF, hs⟩ => ?_
  simp only [evI] at hs
  refine bindG h hF hs fun r1 S1 H1 y yv e1 h1 hF1 qy hs => bindG h1 hF1 hs fun r2 S2 H2 z zv e2 h2 hF2 qz hs => ?_
  split at hs
  · cases qy
    cases qz
    split at hs
    · rename_i hj
      simp only [Bool.and_eq_true, decide_eq_true_eq] at hj
      exact ⟨_, _, rfl, ⟨by omega, by omega, by omega, by omega⟩, hs.fin h2 srv_range⟩
    · exact hs.elim
  · exact hs.elim
theorem si_zip {a b : CE} {elts : List Expr} {kk : Nat} {tpos : Pos} {ea eb : Expr} {x : Str} {p pos : Pos} {C : Cxt} {T : Sta} (ok : XOk R N c X) (wd : WldX R T c C X) (ha : SE R W rs X ea (ev C rs a)) (hb : SE R W rs X eb (ev C rs b)) (hx : x = ("zip" : Str)) (hg : chkGl c.sc x = true) (hbl : x ∈ T.bl) (n1 : noStar ea = true) (n2 : noStar eb = true) :
    SI R W rs X (.Tuple elts kk tpos) (.Call (.Name x p) [ea, eb] [] pos) (evI C rs (.zip a b)) := by
  subst hx
  obtain ⟨g1, g2⟩ := gl_of ok hg
  refine PI.imp (RZ.pi_zipA (pos := pos) (p := p) g1 (wd.bl _ hbl) (pa_cons ha (pa_cons hb pa_nil (star_of n2)) (star_of n1)) (star_of n1) (by rw [star_of n2]; rfl)) fun st H Q ⟨r, F, S, h, hF, hs⟩ => ?_
  simp only [evI] at hs
  refine bindG h hF hs fun r1 S1 H1 y yv e1 h1 hF1 qy hs => bindG h1 hF1 hs fun r2 S2 H2 z zv e2 h2 hF2 qz hs => ?_
  have qy2 := qy.ext e2
  rw [ok.K]
  split at hs
  · cases qy2 with
    | lst q1 n1 g1 =>
    cases qz with
    | lst q2 n2 g2 => exact ⟨_, _, _, _, rfl, .inl ⟨.of q1, .of q2, hs.fin h2 (srv_zip q1 n1 g1 q2 n2 g2)⟩⟩
  · cases qy2 with
    | tup f1 g1 =>
    cases qz with
    | tup f2 g2 => exact ⟨_, _, _, _, rfl, .inr ⟨f1.sq, f2.sq, hs.fin h2 (srv_zipT f1 g1 f2 g2)⟩⟩
  · exact hs.elim
theorem si_enm {a : CE} {elts : List Expr} {kk : Nat} {tpos : Pos} {ea : Expr} {x : Str} {p pos : Pos} {C : Cxt} {T : Sta} (ok : XOk R N c X) (wd : WldX R T c C X) (ha : SE R W rs X ea (ev C rs a)) (hx : x = ("enumerate" : Str)) (hg : chkGl c.sc x = true) (hbl : x ∈ T.bl) (n1 : noStar ea = true) :
    SI R W rs X (.Tuple elts kk tpos) (.Call (.Name x p) [ea] [] pos) (evI C rs (.enm a)) := by
  subst hx
  obtain ⟨g1, g2⟩ := gl_of ok hg
  refine PI.imp (pi_enum (pos := pos) (p := p) g1 (wd.bl _ hbl) (pa_cons ha pa_nil (star_of n1)) (star_of n1)) fun st H Q ⟨r, F, S, h, hF, hs⟩ => ?_
  simp only [evI] at hs
  refine bindG h hF hs fun r1 S1 H1 y yv e1 h1 hF1 qy hs => ?_
  rw [ok.K]
  split at hs
  · cases qy with
    | lst q1 n1 g1 => exact ⟨_, _, rfl, .of q1, hs.fin h1 (srv_enum q1 n1 g1)⟩
  · exact hs.elim
end
end OM
set_option Elab.async false
set_option linter.all false
set_option maxRecDepth 100000
set_option maxHeartbeats 1000000
/-! OmComp: targets; list comprehensions. -/
namespace OM
open PySem PySem.Spec PyProof.Rows L2

/-! ### a list that is being made -/
section
variable {R : RP} {rs : List Nat} {r : List Addr} {S : Sto} {H : Hp} {D' : Addr} {o : HO}
theorem Fre.ne {a : Addr} (f : Fre R r a) (m : D' ∈ R.hid) : a ≠ D' := fun z => f.2 (z ▸ m)
theorem FzT.hidw {a : Addr} {xs : List V} (f : FzT R r H a xs) (m : D' ∈ R.hid) : FzT R r (upd H D' o) a xs := by
  rcases f with ⟨f | ⟨p, f⟩, n⟩ | f
  · exact .inl ⟨.inl (by rw [upd_ne (n.ne m)]; exact f), n⟩
  · exact .inl ⟨.inr ⟨p, by rw [upd_ne (n.ne m)]; exact f⟩, n⟩
  · exact .inr f
theorem FzL.hidw {a : Addr} {xs : List V} (f : FzL R r H a xs) (m : D' ∈ R.hid) : FzL R r (upd H D' o) a xs := by
  rcases f with ⟨f | ⟨p, f⟩, n⟩ | f
  · exact .inl ⟨.inl (by rw [upd_ne (n.ne m)]; exact f), n⟩
  · exact .inl ⟨.inr ⟨p, by rw [upd_ne (n.ne m)]; exact f⟩, n⟩
  · exact .inr f
mutual
theorem Rep.hidw (m : D' ∈ R.hid) : ∀ {d : D} {v : V}, Rep R r H d v → Rep R r (upd H D' o) d v
  | _, _, .non => .non
  | _, _, .bl b => .bl b
  | _, _, .int i => .int i
  | _, _, .str x => .str x
  | _, _, .tup f h => .tup (f.hidw m) (Reps.hidw m h)
  | _, _, .lst q n h => .lst (by rw [upd_ne (n.ne m)]; exact q) n (Reps.hidw m h)
  | _, _, .frz f => .frz (f.hidw m)
  | _, _, .obj q n k h => .obj (by rw [upd_ne (n.ne m)]; exact q) n k (Reps.hidw m h)
  | _, _, .exc q q2 n n2 k h => .exc (by rw [upd_ne (n.ne m)]; exact q) (by rw [upd_ne (n2.ne m)]; exact q2) n n2 k (Reps.hidw m h)
  | _, _, .pin p q2 n2 k h => .pin p (by rw [upd_ne (n2.ne m)]; exact q2) n2 k (Reps.hidw m h)
  | _, _, .ref h => .ref h
  | _, _, .fn k => .fn k
  | _, _, .cls k => .cls k
  | _, _, .ty k => .ty k
theorem Reps.hidw (m : D' ∈ R.hid) : ∀ {ds : List D} {vs : List V}, Reps R r H ds vs → Reps R r (upd H D' o) ds vs
  | _, _, .nil => .nil
  | _, _, .cons h t => .cons (h.hidw m) (Reps.hidw m t)
end
theorem RS.hidw {ws : List V} (h : RS R rs r S H) (m : D' ∈ R.hid) : RS R rs r S (upd H D' (.lst ws)) := by
  refine ⟨h.len, h.nd, fun n c e => ?_, h.reg, fun a ma => ?_, let ⟨_, _, q⟩ := h.hd D' m; tabs_lst h.tabs q⟩
  · obtain ⟨a, u, e1, e2, e3⟩ := h.cell n c e
    have ne : a ≠ D' := fun z => (h.hd D' m).1 (z ▸ List.mem_of_getElem? e1)
    refine ⟨a, u, e1, by rw [upd_ne ne]; exact e2, ?_⟩
    cases e3 with
    | lst g => exact .lst (g.hidw m)
    | obj k g => exact .obj k (g.hidw m)
  · obtain ⟨h1, u, h2⟩ := h.hd a ma
    by_cases q : a = D'
    · subst q; exact ⟨h1, _, upd_same⟩
    · exact ⟨h1, u, by rw [upd_ne q]; exact h2⟩
/-- a list begins to be made -/
theorem later_new (n : H D' = none) : Later R H (D' :: R.hid) := fun a m => by
  rcases List.mem_cons.mp m with e | m
  · subst e; exact .inr n
  · exact .inl m
theorem RS.later {ws : List V} (h : RS R rs r S H) (n : H D' = none) : RS (R.h (D' :: R.hid)) rs r S (upd H D' (.lst ws)) := by
  have l := later_new (R := R) n
  refine ⟨h.len, h.nd, fun k c e => ?_, h.reg, fun a m => ?_, tabs_new h.tabs n⟩
  · obtain ⟨a, u, e1, e2, e3⟩ := h.cell k c e
    refine ⟨a, u, e1, by rw [upd_ne (ne_of_none e2 n)]; exact e2, ?_⟩
    cases e3 with
    | lst g => exact .lst ((g.later l).ext (.fresh n))
    | obj k g => exact .obj k ((g.later l).ext (.fresh n))
  · rcases List.mem_cons.mp m with e | m
    · subst e; exact ⟨h.nin n, _, upd_same⟩
    · obtain ⟨h1, u, h2⟩ := h.hd a m
      exact ⟨h1, u, by rw [upd_ne (ne_of_none h2 n)]; exact h2⟩
/-- .. and is made -/
theorem Fre.less {a : Addr} (f : Fre (R.h (D' :: R.hid)) r a) : Fre R r a := ⟨f.1, fun m => f.2 (List.mem_cons_of_mem _ m)⟩
mutual
theorem Rep.less : ∀ {d : D} {v : V}, Rep (R.h (D' :: R.hid)) r H d v → Rep R r H d v
  | _, _, .non => .non
  | _, _, .bl b => .bl b
  | _, _, .int i => .int i
  | _, _, .str x => .str x
  | _, _, .tup f h => .tup (f.elim (fun z => .inl ⟨z.1, z.2.less⟩) .inr) (Reps.less h)
  | _, _, .lst q n h => .lst q n.less (Reps.less h)
  | _, _, .frz f => .frz (f.elim (fun z => .inl ⟨z.1, z.2.less⟩) .inr)
  | _, _, .obj q n k h => .obj q n.less k (Reps.less h)
  | _, _, .exc q q2 n n2 k h => .exc q q2 n.less n2.less k (Reps.less h)
  | _, _, .pin p q2 n2 k h => .pin p q2 n2.less k (Reps.less h)
  | _, _, .ref h => .ref h
  | _, _, .fn k => .fn k
  | _, _, .cls k => .cls k
  | _, _, .ty k => .ty k
theorem Reps.less : ∀ {ds : List D} {vs : List V}, Reps (R.h (D' :: R.hid)) r H ds vs → Reps R r H ds vs
  | _, _, .nil => .nil
  | _, _, .cons h t => .cons h.less (Reps.less t)
end
theorem RS.less (h : RS (R.h (D' :: R.hid)) rs r S H) : RS R rs r S H :=
  ⟨h.len, h.nd, fun k c e => by
    obtain ⟨a, u, e1, e2, e3⟩ := h.cell k c e
    refine ⟨a, u, e1, e2, ?_⟩
    cases e3 with
    | lst g => exact .lst g.less
    | obj k g => exact .obj k g.less, h.reg, fun a m => h.hd a (List.mem_cons_of_mem _ m), h.tabs⟩
end

/-! ### targets -/
/-- st2 is st but for the slots is -/
def SameBut (is : List Nat) (st st2 : L2.St) : Prop := st2.length = st.length ∧ ∀ j, j ∉ is → st2[j]? = st[j]?
theorem wipe_same {is : List Nat} : ∀ (vs : List Nat) {st st2 : L2.St}, SameBut is st st2 → (∀ i ∈ is, i ∈ vs) → wipe st2 vs = wipe st vs := by
  intro vs st st2 hs hv
  have key : ∀ (ws : List Nat) (j : Nat), (j ∈ ws ∨ st2[j]? = st[j]?) → (wipe st2 ws)[j]? = (wipe st ws)[j]? := by
    intro ws
    induction ws with
    | nil => intro j h; exact h.elim (fun z => nomatch z) id
    | cons w ws ih =>
      intro j h
      unfold wipe
      by_cases e : w = j
      · subst e
        rw [List.getElem?_set, List.getElem?_set, if_pos rfl, if_pos rfl, wipe_length, wipe_length, hs.1]
      · rw [List.getElem?_set_ne e, List.getElem?_set_ne e]
        refine ih j (h.elim (fun z => ?_) .inr)
        rcases List.mem_cons.mp z with z | z
        · exact absurd z.symm e
        · exact .inl z
  refine List.ext_getElem? fun j => key vs j ?_
  by_cases h : j ∈ is
  · exact .inl (hv j h)
  · exact .inr (hs.2 j h)
theorem wipeF_at {F : Fr} {i : Nat} {d : D} : ∀ {vs : List Nat}, (wipeF F vs)[i]? = some (some d) → F[i]? = some (some d) ∧ i ∉ vs
  | [], h => ⟨h, by simp⟩
  | v :: vs, h => by
    unfold wipeF at h
    by_cases hi : v = i
    · subst hi
      rw [List.getElem?_set, if_pos rfl] at h
      split at h <;> cases h
    · rw [List.getElem?_set_ne hi] at h
      obtain ⟨h1, h2⟩ := wipeF_at h
      refine ⟨h1, ?_⟩
      simp only [List.mem_cons, not_or]
      exact ⟨fun e => hi e.symm, h2⟩
theorem wipe_at {st : L2.St} {i : Nat} : ∀ {vs : List Nat}, i ∉ vs → (wipe st vs)[i]? = st[i]?
  | [], _ => rfl
  | v :: vs, h => by
    simp only [List.mem_cons, not_or] at h
    unfold wipe
    rw [List.getElem?_set_ne (fun e => h.1 e.symm)]
    exact wipe_at h.2
theorem wipeF_length (F : Fr) : ∀ vs : List Nat, (wipeF F vs).length = F.length
  | [] => rfl
  | v :: vs => by unfold wipeF; rw [List.length_set, wipeF_length F vs]
theorem RF.wipe {R : RP} {r : List Addr} {H : Hp} {F : Fr} {st : L2.St} (h : RF R r H F st) (vs : List Nat) : RF R r H (wipeF F vs) (L2.wipe st vs) :=
  ⟨by rw [wipeF_length, wipe_length]; exact h.len, fun i d e => by
    obtain ⟨h1, h2⟩ := wipeF_at e
    obtain ⟨v, h3, h4⟩ := h.at_ i d h1
    exact ⟨v, by rw [wipe_at h2]; exact h3, h4⟩⟩
theorem RF.later {R : RP} {r : List Addr} {H : Hp} {F : Fr} {st : L2.St} {hid : List Addr} (h : RF R r H F st) (l : Later R H hid) : RF (R.h hid) r H F st :=
  ⟨h.len, fun i d e => let ⟨v, a, b⟩ := h.at_ i d e; ⟨v, a, b.later l⟩⟩

/-- the target t is stored as bindT says -/
def TgOk (R : RP) (t : Tgt) (g : TG) : Prop :=
  ∀ (hid r : List Addr) (H : Hp) (F F2 : Fr) (st : L2.St) (d : D) (v : V) (Q : L2.St → Hp → Prop), RF (R.h hid) r H F st → Rep (R.h hid) r H d v → bindT t d F = some F2 →
    (∀ st2, RF (R.h hid) r H F2 st2 → SameBut t.slots st st2 → Q st2 H) → g v st H Q
theorem SameBut.set {i : Nat} {st : L2.St} {x : Option V} : SameBut [i] st (st.set i x) := ⟨by simp, fun j h => by rw [List.getElem?_set_ne (fun e => h (by simp [e]))]⟩
theorem SameBut.mono {is js : List Nat} {a b : L2.St} (h : SameBut is a b) (m : ∀ i ∈ is, i ∈ js) : SameBut js a b := ⟨h.1, fun j hj => h.2 j fun z => hj (m j z)⟩
theorem SameBut.trans {is : List Nat} {a b c : L2.St} (h : SameBut is a b) (g : SameBut is b c) : SameBut is a c := ⟨g.1.trans h.1, fun j hj => (g.2 j hj).trans (h.2 j hj)⟩
theorem SameBut.refl {is : List Nat} {a : L2.St} : SameBut is a a := ⟨rfl, fun _ _ => rfl⟩
theorem tg_one {R : RP} (i : Nat) : TgOk R (.one i) (gName i) := by
  intro hid r H F F2 st d v Q hF q e k
  unfold bindT at e
  cases e
  exact k _ (hF.set q) .set
/-- several names -/
def gNames : List Nat → TGs
  | [] => gNil
  | i :: is => gCons (gName i) (gNames is)
theorem tgs_ok {R : RP} : ∀ (is : List Nat) (r : List Addr) (H : Hp) (F F2 : Fr) (st : L2.St) (ds : List D) (vs : List V) (Q : L2.St → Hp → Prop), RF R r H F st → Reps R r H ds vs → setN F is ds = some F2 →
    (∀ st2, RF R r H F2 st2 → SameBut is st st2 → Q st2 H) → gNames is vs st H Q
  | [], r, H, F, F2, st, ds, vs, Q, hF, g, e, k => by
    cases g with
    | nil => unfold setN at e; cases e; exact ⟨rfl, k _ hF .refl⟩
    | cons _ _ => unfold setN at e; cases e
  | i :: is, r, H, F, F2, st, ds, vs, Q, hF, g, e, k => by
    cases g with
    | nil => unfold setN at e; cases e
    | cons q t =>
      unfold setN at e
      refine ⟨_, _, rfl, ?_⟩
      exact tgs_ok is r H _ F2 _ _ _ Q (hF.set q) t e fun st2 h2 sb => k st2 h2 (SameBut.trans (SameBut.set.mono (by simp)) (sb.mono fun _ m => List.mem_cons_of_mem _ m))
theorem setN_len : ∀ {is : List Nat} {ds : List D} {F F2 : Fr}, setN F is ds = some F2 → ds.length = is.length
  | [], [], _, _, _ => rfl
  | [], _ :: _, _, _, e => by unfold setN at e; cases e
  | _ :: _, [], _, _, e => by unfold setN at e; cases e
  | i :: is, d :: ds, _, _, e => by
    unfold setN at e
    rw [List.length_cons, List.length_cons, setN_len e]
theorem tg_tup {R : RP} (is : List Nat) : TgOk R (.tup is) (gTup R.K is.length (gNames is)) := by
  intro hid r H F F2 st d v Q hF q e k
  unfold bindT at e
  dsimp only at e
  split at e
  · cases q with
    | tup f g => exact ⟨_, _, rfl, f.sq, by rw [← g.length]; exact setN_len e, tgs_ok is r H F F2 st _ _ Q hF g e k⟩
  · cases e

/-! ### turns -/
theorem turns_grow {f : D → Sto → Out (List D)} {s : Src} : ∀ {m i : Nat} {ys zs : List D} {S S' : Sto}, turns f s m i ys S = .ok zs S' → ys.length ≤ zs.length
  | 0, i, ys, zs, S, S', e => by
    unfold turns at e
    split at e
    · cases e; exact Nat.le_refl _
    · cases e
  | m + 1, i, ys, zs, S, S', e => by
    unfold turns at e
    split at e
    · rename_i d _
      cases e1 : nox (f d S) with
      | bad => rw [e1] at e; cases e
      | exc x S1 => rw [e1] at e; cases e
      | ok ws S1 =>
        rw [e1] at e
        have := turns_grow (show turns f s m (i + 1) (ys ++ ws) S1 = .ok zs S' from e)
        rw [List.length_append] at this
        omega
    · cases e
theorem turns_nox {f : D → Sto → Out (List D)} {s : Src} : ∀ {m i : Nat} {ys : List D} {S S' : Sto} {x : D}, turns f s m i ys S ≠ .exc x S'
  | 0, i, ys, S, S', x, e => by
    unfold turns at e
    split at e <;> cases e
  | m + 1, i, ys, S, S', x, e => by
    unfold turns at e
    split at e
    · rename_i d _
      cases e1 : nox (f d S) with
      | bad => rw [e1] at e; cases e
      | exc x S1 =>
        unfold nox at e1
        split at e1
        · cases e1
        · rename_i h
          exact h _ _ e1
      | ok ws S1 => rw [e1] at e; exact turns_nox (show turns f s m (i + 1) (ys ++ ws) S1 = .exc x S' from e)
    · cases e
/-- the list that is made stays within its line -/
theorem turns_fit {R : RP} {W : WX} {rs : List Nat} {st : L2.St} {r : List Addr} {H : Hp} {Q : VK} {f : D → Sto → Out (List D)} {s : Src} {m i : Nat} {ys : List D} {S : Sto} {mu : Bool} (h : Sat R W rs st r H (Rep R) ((turns f s m i ys S).bind fun xs S2 => mkList mu xs S2) Q) : ys.length ≤ line := by
  cases e : turns f s m i ys S with
  | bad => rw [e] at h; exact h.elim
  | exc x S1 => exact absurd e turns_nox
  | ok zs S1 =>
    rw [e] at h
    have g := turns_grow e
    simp only [Out.bind, mkList] at h
    split at h
    · omega
    · exact h.elim
end OM
namespace OM
open PySem PySem.Spec PyProof.Rows L2
/-! ### the list is made -/
section
variable {R : RP} {rs : List Nat} {r : List Addr} {S : Sto} {H : Hp} {D' : Addr} {o : HO}
theorem Fre.owned {a : Addr} (f : Fre (R.h (D' :: R.hid)) r a) : Fre R (r ++ [D']) a := ⟨fun m => by
  rcases List.mem_append.mp m with m | m
  · exact f.1 m
  · exact f.2 (by rw [List.mem_singleton] at m; subst m; exact List.mem_cons_self), fun m => f.2 (List.mem_cons_of_mem _ m)⟩
mutual
theorem Rep.owned : ∀ {d : D} {v : V}, Rep (R.h (D' :: R.hid)) r H d v → Rep R (r ++ [D']) H d v
  | _, _, .non => .non
  | _, _, .bl b => .bl b
  | _, _, .int i => .int i
  | _, _, .str x => .str x
  | _, _, .tup f h => .tup (f.elim (fun z => .inl ⟨z.1, z.2.owned⟩) .inr) (Reps.owned h)
  | _, _, .lst q n h => .lst q n.owned (Reps.owned h)
  | _, _, .frz f => .frz (f.elim (fun z => .inl ⟨z.1, z.2.owned⟩) .inr)
  | _, _, .obj q n k h => .obj q n.owned k (Reps.owned h)
  | _, _, .exc q q2 n n2 k h => .exc q q2 n.owned n2.owned k (Reps.owned h)
  | _, _, .pin p q2 n2 k h => .pin p q2 n2.owned k (Reps.owned h)
  | _, _, .ref h => .ref (by rw [List.getElem?_append_left (List.getElem?_eq_some_iff.mp h).1]; exact h)
  | _, _, .fn k => .fn k
  | _, _, .cls k => .cls k
  | _, _, .ty k => .ty k
theorem Reps.owned : ∀ {ds : List D} {vs : List V}, Reps (R.h (D' :: R.hid)) r H ds vs → Reps R (r ++ [D']) H ds vs
  | _, _, .nil => .nil
  | _, _, .cons h t => .cons h.owned (Reps.owned t)
end
theorem RS.owned (h : RS (R.h (D' :: R.hid)) rs r S H) (ni : D' ∉ R.hid) {ds : List D} {vs : List V} (e : H D' = some (.lst vs)) (g : Reps (R.h (D' :: R.hid)) r H ds vs) : RS R rs (r ++ [D']) (S ++ [.lst ds]) H := by
  have nr : D' ∉ r := (h.hd D' List.mem_cons_self).1
  refine ⟨by simp [h.len], ?_, fun k d q => ?_, fun m hm => ?_, fun a m => ?_, h.tabs⟩
  · rw [List.nodup_append]
    refine ⟨h.nd, by simp, fun a ha b hb => ?_⟩
    rw [List.mem_singleton] at hb
    subst hb
    exact fun z => nr (z ▸ ha)
  · by_cases hk : k < S.length
    · rw [List.getElem?_append_left hk] at q
      obtain ⟨a, u, e1, x, y⟩ := h.cell k d q
      refine ⟨a, u, by rw [List.getElem?_append_left (by rw [h.len]; exact hk)]; exact e1, x, ?_⟩
      cases y with
      | lst g => exact .lst g.owned
      | obj k g => exact .obj k g.owned
    · rw [List.getElem?_append_right (by omega)] at q
      have hz : k - S.length = 0 := by
        have := (List.getElem?_eq_some_iff.mp q).1
        simp at this
        omega
      rw [hz] at q
      cases q
      refine ⟨D', _, ?_, e, .lst g.owned⟩
      rw [List.getElem?_append_right (by rw [h.len]; omega), h.len, hz]
      rfl
  · obtain ⟨h1, h2⟩ := h.reg m hm
    refine ⟨by simp; omega, fun k d hk q => ?_⟩
    rw [List.getElem?_append_left (by omega)] at q
    exact h2 k d hk q
  · obtain ⟨h1, h2⟩ := h.hd a (List.mem_cons_of_mem _ m)
    refine ⟨fun z => ?_, h2⟩
    rcases List.mem_append.mp z with z | z
    · exact h1 z
    · rw [List.mem_singleton] at z
      subst z
      exact ni m
end
theorem Ext.hidw {r r' : List Addr} {H H' : Hp} {p : Addr} {o : HO} (e : Ext r H r' H') (n : H p = none) : Ext r H r' (upd H' p o) :=
  ⟨e.old, fun a u q m t => by rw [upd_ne (ne_of_none q n)]; exact e.keep a u q m t, e.new⟩
theorem wipe_SB (st : L2.St) (vs : List Nat) : SameBut vs st (wipe st vs) := ⟨wipe_length _ _, fun _ h => wipe_at h⟩

abbrev W0 : WX := fun _ _ _ _ => False
/-- a reading for any lists that are being made -/
def tH {α β : Type} (R : RP) (rs : List Nat) (Rel : RP → List Addr → Hp → α → β → Prop) (g : Fr → Sto → Out α) : L2.St → Hp → (β → Hp → Prop) → Prop :=
  fun st H Q => ∃ hid, tG (R.h hid) W0 rs (Rel (R.h hid)) g st H Q
theorem nox_bind_sat {α β γ : Type} {R : RP} {W : WX} {rs : List Nat} {st : L2.St} {r : List Addr} {H : Hp} {Rel : List Addr → Hp → β → γ → Prop} {o : Out α} {f : α → Sto → Out β} {Q : γ → Hp → Prop} (h : Sat R W rs st r H Rel ((nox o).bind f) Q) : ∃ a S, o = .ok a S ∧ Sat R W rs st r H Rel (f a S) Q := by
  cases o with
  | ok a S => exact ⟨a, S, rfl, h⟩
  | exc _ _ => exact h.elim
  | bad => exact h.elim
section
variable {R : RP} {W : WX} {rs : List Nat} {X : Cx} {N : List Str} {c : Scp}
def turnF (C : Cxt) (rs : List Nat) (e : CE) (t : Tgt) (ifs : List CE) (Fw : Fr) : D → Sto → Out (List D) := fun x S2 => match bindT t x Fw with
  | some F2 => (evT C rs ifs F2 S2).bind fun b S3 => if b then evG C rs (ev C rs e) [] F2 F2 S3 else .ok [] S3
  | none => .bad
theorem ev_comp1 {C : Cxt} {mu : Bool} {e : CE} {t : Tgt} {it : IT} {ifs : List CE} {F : Fr} {S : Sto} : ev C rs (.comp mu e [.mk t it ifs]) F S = (evI C rs it F S).bind fun s S1 => (turns (turnF C rs e t ifs (wipeF F t.slots)) s s.len 0 [] S1).bind fun xs S2 => mkList mu xs S2 := by
  simp only [ev, evG, ownOf, List.append_nil, Out.bind_assoc]
  rfl
theorem lc_fact {mu : Bool} {e : CE} {t : Tgt} {it : IT} {ifs : List CE} {own : List (Str × Nat)} {C : Cxt} {g : TG} (hown : own.map (·.2) = t.slots) (hgt : TgOk R t g) {st : L2.St} {H : Hp} {Q : VK} (hh : tG R W rs (Rep R) (ev C rs (.comp mu e [.mk t it ifs])) st H Q) :
    tLc (tG R W rs (fun r H s J => Srv R rs s J r H) (evI C rs it)) g (tH R rs (fun _ => eqB) (evT C rs ifs)) (tH R rs Rep (ev C rs e)) (own.map (·.2)) st H Q := by
  obtain ⟨r, F, S, h, hF, hs⟩ := hh
  rw [ev_comp1] at hs
  rw [hown]
  refine bindG h hF hs fun r1 S1 H1 src J e1 h1 hF1 srv hs D' hD => ?_
  have lt := later_new (R := R) hD
  have nh : D' ∉ R.hid := fun m => by
    obtain ⟨_, o, q⟩ := h1.hd D' m
    rw [hD] at q; cases q
  generalize hf : turnF C rs e t ifs (wipeF F t.slots) = f at hs
  refine ⟨fun i m H' => ∃ r2 S2 acc accV, Ext r1 H1 r2 H' ∧ RS (R.h (D' :: R.hid)) rs r2 S2 H' ∧ H' D' = some (.lst accV) ∧ Reps (R.h (D' :: R.hid)) r2 H' acc accV ∧ Sat R W rs st r1 H1 (Rep R) ((turns f src m i acc S2).bind fun xs S2 => mkList mu xs S2) Q,
    ⟨src.len, r1, S1, [], [], .fresh hD, h1.later hD, upd_same, .nil, hs⟩, ?_⟩
  rintro i m H' ⟨r2, S2, acc, accV, x2, h2, hD2, g2, hs2⟩
  have sv := srv (D' :: R.hid) r2 S2 H' i lt x2.b h2
  have fit := turns_fit hs2
  cases m with
  | zero =>
    left
    unfold turns at hs2
    split at hs2
    · rename_i es
      refine ⟨sv.2 es, ?_⟩
      simp only [Out.bind, mkList, if_pos fit] at hs2
      cases mu with
      | true =>
        simp only [if_true] at hs2
        refine hs2 (r2 ++ [D']) H' (.ref D') ⟨fun k hk => ?_, x2.keep, fun a m => ?_⟩ (h2.owned nh hD2 g2) (.ref ?_)
        · rw [List.getElem?_append_left (Nat.lt_of_lt_of_le hk x2.len)]
          exact x2.old k hk
        · rcases List.mem_append.mp m with m | m
          · exact x2.new a m
          · rw [List.mem_singleton] at m
            subst m
            exact .inr (new_of hD)
        · rw [← h2.len, List.getElem?_append_right (Nat.le_refl _), Nat.sub_self]
          rfl
      | false =>
        simp only [Bool.false_eq_true, if_false] at hs2
        exact hs2 r2 H' (.ref D') x2 h2.less (.lst hD2 ⟨(h2.hd D' List.mem_cons_self).1, nh⟩ g2.less)
    · exact hs2.elim
  | succ m =>
    right
    simp only [turns] at hs2
    split at hs2
    · rename_i d es
      obtain ⟨sg, sy⟩ := sv.1 d es
      refine ⟨sg, fun H'' => ∃ r2 S2 acc accV, Ext r1 H1 r2 H'' ∧ RS (R.h (D' :: R.hid)) rs r2 S2 H'' ∧ H'' D' = some (.lst accV) ∧ Reps (R.h (D' :: R.hid)) r2 H'' acc accV ∧ Sat R W rs st r1 H1 (Rep R) ((turns f src m (i + 1) acc S2).bind fun xs S2 => mkList mu xs S2) Q, fun H'' q => ⟨m, Nat.lt_succ_self _, q⟩, fun x H3 y => ?_⟩
      obtain ⟨x3, h3, q3⟩ := sy x H3 y
      rw [Out.bind_assoc] at hs2
      obtain ⟨zs, S6, ef, hs6⟩ := nox_bind_sat hs2
      rw [← hf] at ef
      unfold turnF at ef
      have hF3 : RF (R.h (D' :: R.hid)) r2 H3 (wipeF F t.slots) (wipe st t.slots) := (((hF1.later lt).ext x2).ext x3).wipe _
      have nr2 : D' ∉ r2 := (h2.hd D' List.mem_cons_self).1
      have hD3 : H3 D' = some (.lst accV) := x3.keep _ _ hD2 nr2 rfl
      split at ef
      · rename_i F2 eb
        refine hgt _ r2 H3 _ F2 _ d x _ hF3 q3 eb fun st2 hF4 sb => ?_
        refine ⟨?_, D' :: R.hid, r2, F2, S2, h3, hF4, ?_⟩
        · exact wipe_same t.slots ((wipe_SB st t.slots).trans sb) fun _ m => m
        · cases et : evT C rs ifs F2 S2 with
          | bad => rw [et] at ef; cases ef
          | exc _ _ => rw [et] at ef; cases ef
          | ok b S4 =>
            rw [et] at ef
            simp only [Out.bind] at ef
            intro r4 H4 b' x4 h4 eb'
            have eb' : b = b' := eb'
            subst eb'
            have g4 := (g2.ext x3).ext x4
            have nr3 : D' ∉ r2 := (h3.hd D' List.mem_cons_self).1
            have hD4 := x4.keep _ _ hD3 nr3 rfl
            cases b with
            | false =>
              simp only [Bool.false_eq_true, if_false] at ef ⊢
              cases ef
              rw [List.append_nil] at hs6
              exact ⟨r4, _, acc, accV, (x2.trans x3).trans x4, h4, hD4, g4, hs6⟩
            | true =>
              simp only [if_true] at ef ⊢
              simp only [evG] at ef
              refine ⟨D' :: R.hid, r4, F2, S4, h4, hF4.ext x4, ?_⟩
              cases ee : ev C rs e F2 S4 with
              | bad => rw [ee] at ef; cases ef
              | exc _ _ => rw [ee] at ef; cases ef
              | ok y5 S5 =>
                rw [ee] at ef
                simp only [Out.bind] at ef
                cases ef
                intro r5 H5 yv x5 h5 q5
                have hD5 := x5.keep _ _ hD4 (h4.hd D' List.mem_cons_self).1 rfl
                have fit6 := turns_fit hs6
                rw [List.length_append, List.length_singleton] at fit6
                refine ⟨accV, hD5, ?_, r5, _, acc ++ [y5], accV ++ [yv], (((x2.trans x3).trans x4).trans x5).hidw hD, h5.hidw List.mem_cons_self, upd_same, ?_, hs6⟩
                · rw [← g2.length, ← line_eq]
                  omega
                · exact Reps.append ((g4.ext x5).hidw List.mem_cons_self) (.cons (q5.hidw List.mem_cons_self) .nil)
      · cases ef
    · exact hs2.elim
theorem se_comp1 {mu : Bool} {e : CE} {t : Tgt} {it : IT} {ifs : List CE} {elt tg iter : Expr} {ifsE : List Expr} {scope : Scope} {own : List (Str × Nat)} {pos : Pos} {C : Cxt} {g : TG} (hc : X.calm = true) (hN : X.N.Nodup) (hi : SI R W rs X tg iter (evI C rs it)) (ok : BlkOk X.N X.env.scope scope own) (hown : own.map (·.2) = t.slots)
    (hg : ∀ (s : Shared) (H : Hp) (C : Addr) (cl : List (Str × Addr)) (fp : List Addr), PG (X.blk s H scope (compEnvC scope cl C X.env) fp) tg g) (hgt : TgOk R t g)
    (ht : ∀ (s : Shared) (H : Hp) (Ca : Addr) (cl : List (Str × Addr)) (fp : List Addr), PTs (X.blk s H scope (compEnvC scope cl Ca X.env) fp) ifsE (tH R rs (fun _ => eqB) (evT C rs ifs)))
    (he : ∀ (s : Shared) (H : Hp) (Ca : Addr) (cl : List (Str × Addr)) (fp : List Addr), PE (X.blk s H scope (compEnvC scope cl Ca X.env) fp) elt (tH R rs Rep (ev C rs e))) (hs : ∀ x, foldedSetIterable iter X.env x = pure x) :
    SE R W rs X (.ListComp elt [⟨tg, iter, ifsE, 0⟩] scope pos) (ev C rs (.comp mu e [.mk t it ifs])) :=
  (pe_lc (pos := pos) hc hN hi ok hg ht he hs).imp fun st H Q h => lc_fact hown hgt h
end
end OM
set_option Elab.async false
set_option linter.all false
set_option maxRecDepth 100000
set_option maxHeartbeats 1000000
/-! OmComp2: list comprehensions of two clauses. -/
namespace OM
open PySem PySem.Spec PyProof.Rows L2
theorem nox_bind_ok {α β : Type} {o : Out α} {f : α → Sto → Out β} {b : β} {S : Sto} (h : (nox o).bind f = .ok b S) : ∃ a S1, o = .ok a S1 ∧ f a S1 = .ok b S := by
  cases o with
  | ok a S1 => exact ⟨a, S1, rfl, h⟩
  | exc _ _ => cases h
  | bad => cases h
theorem ExtB.trans' {R : RP} {r r1 r2 : List Addr} {H H1 H2 : Hp} (a : ExtB R r H r1 H1) (b : Ext r1 H1 r2 H2) (hh : ∀ c ∈ R.hid, c ∉ r2) : ExtB R r H r2 H2 where
  old := fun n h => (b.old n (Nat.lt_of_lt_of_le h a.len)).trans (a.old n h)
  keep := fun c o h n t => b.keep c o (a.keep c o h n t) (a.fre h n t).1 t
  new := fun c h => by
    rcases b.new c h with q | q
    · exact a.new c q
    · by_cases hc : c ∈ r
      · exact .inl hc
      · refine .inr fun o e => ?_
        cases t : notT o with
        | false => rfl
        | true => exact t.symm.trans (q o (a.keep c o e ⟨hc, fun z => hh c z h⟩ t))
theorem ExtB.hidw {R : RP} {r r' : List Addr} {H H' : Hp} {p : Addr} {o : HO} (e : ExtB R r H r' H') (m : p ∈ R.hid) : ExtB R r H r' (upd H' p o) :=
  ⟨e.old, fun a u q f t => by rw [upd_ne (f.ne m)]; exact e.keep a u q f t, e.new⟩
section
variable {R : RP} {W : WX} {rs : List Nat} {X : Cx} {N : List Str} {c : Scp}
def turnF2 (C : Cxt) (rs : List Nat) (e : CE) (t : Tgt) (ifs : List CE) (t1 : Tgt) (it1 : IT) (ifs1 : List CE) (Fw : Fr) : D → Sto → Out (List D) := fun x S2 => match bindT t x Fw with
  | some F2 => (evT C rs ifs F2 S2).bind fun b S3 => if b then (evI C rs it1 F2 S3).bind fun s S4 => turns (turnF C rs e t1 ifs1 (wipeF F2 t1.slots)) s s.len 0 [] S4 else .ok [] S3
  | none => .bad
theorem ev_comp2 {C : Cxt} {mu : Bool} {e : CE} {t t1 : Tgt} {it it1 : IT} {ifs ifs1 : List CE} {F : Fr} {S : Sto} : ev C rs (.comp mu e [.mk t it ifs, .mk t1 it1 ifs1]) F S = (evI C rs it F S).bind fun s S1 => (turns (turnF2 C rs e t ifs t1 it1 ifs1 (wipeF F (t.slots ++ t1.slots))) s s.len 0 [] S1).bind fun xs S2 => mkList mu xs S2 := by
  simp only [ev, evG, ownOf, List.append_nil, Out.bind_assoc, wipeH]
  rfl
/-- a source for any lists that are being made -/
def tHI (R : RP) (rs : List Nat) (g : Fr → Sto → Out Src) : TI := fun st H Q => ∃ hid, tG (R.h hid) W0 rs (fun r H s J => Srv (R.h hid) rs s J r H) g st H Q
theorem lc2_fact {mu : Bool} {e : CE} {t t1 : Tgt} {it it1 : IT} {ifs ifs1 : List CE} {own : List (Str × Nat)} {C : Cxt} {g g1 : TG} (hown : own.map (·.2) = t.slots ++ t1.slots) (hgt : TgOk R t g) (hgt1 : TgOk R t1 g1) {st : L2.St} {H : Hp} {Q : VK} (hh : tG R W rs (Rep R) (ev C rs (.comp mu e [.mk t it ifs, .mk t1 it1 ifs1])) st H Q) :
    tLc2 (tG R W rs (fun r H s J => Srv R rs s J r H) (evI C rs it)) g (tH R rs (fun _ => eqB) (evT C rs ifs)) (tHI R rs (evI C rs it1)) g1 (tH R rs (fun _ => eqB) (evT C rs ifs1)) (tH R rs Rep (ev C rs e)) (own.map (·.2)) t1.slots st H Q := by
  obtain ⟨r, F, S, h, hF, hs⟩ := hh
  rw [ev_comp2] at hs
  rw [hown]
  refine bindG h hF hs fun r1 S1 H1 src J e1 h1 hF1 srv hs D' hD => ?_
  have lt := later_new (R := R) hD
  have nh : D' ∉ R.hid := fun m => by
    obtain ⟨_, o, q⟩ := h1.hd D' m
    rw [hD] at q; cases q
  generalize hf : turnF2 C rs e t ifs t1 it1 ifs1 (wipeF F (t.slots ++ t1.slots)) = f at hs
  refine ⟨fun i m H' => ∃ r2 S2 acc accV, Ext r1 H1 r2 H' ∧ RS (R.h (D' :: R.hid)) rs r2 S2 H' ∧ H' D' = some (.lst accV) ∧ Reps (R.h (D' :: R.hid)) r2 H' acc accV ∧ Sat R W rs st r1 H1 (Rep R) ((turns f src m i acc S2).bind fun xs S2 => mkList mu xs S2) Q,
    ⟨src.len, r1, S1, [], [], .fresh hD, h1.later hD, upd_same, .nil, hs⟩, ?_⟩
  rintro i m H' ⟨r2, S2, acc, accV, x2, h2, hD2, g2, hs2⟩
  have sv := srv (D' :: R.hid) r2 S2 H' i lt x2.b h2
  have fit := turns_fit hs2
  cases m with
  | zero =>
    left
    unfold turns at hs2
    split at hs2
    · rename_i es
      refine ⟨sv.2 es, ?_⟩
      simp only [Out.bind, mkList, if_pos fit] at hs2
      cases mu with
      | true =>
        simp only [if_true] at hs2
        refine hs2 (r2 ++ [D']) H' (.ref D') ⟨fun k hk => ?_, x2.keep, fun a m => ?_⟩ (h2.owned nh hD2 g2) (.ref ?_)
        · rw [List.getElem?_append_left (Nat.lt_of_lt_of_le hk x2.len)]
          exact x2.old k hk
        · rcases List.mem_append.mp m with m | m
          · exact x2.new a m
          · rw [List.mem_singleton] at m
            subst m
            exact .inr (new_of hD)
        · rw [← h2.len, List.getElem?_append_right (Nat.le_refl _), Nat.sub_self]
          rfl
      | false =>
        simp only [Bool.false_eq_true, if_false] at hs2
        exact hs2 r2 H' (.ref D') x2 h2.less (.lst hD2 ⟨(h2.hd D' List.mem_cons_self).1, nh⟩ g2.less)
    · exact hs2.elim
  | succ m =>
    right
    simp only [turns] at hs2
    split at hs2
    · rename_i d es
      obtain ⟨sg, sy⟩ := sv.1 d es
      refine ⟨sg, fun H'' => ∃ r2 S2 acc accV, Ext r1 H1 r2 H'' ∧ RS (R.h (D' :: R.hid)) rs r2 S2 H'' ∧ H'' D' = some (.lst accV) ∧ Reps (R.h (D' :: R.hid)) r2 H'' acc accV ∧ Sat R W rs st r1 H1 (Rep R) ((turns f src m (i + 1) acc S2).bind fun xs S2 => mkList mu xs S2) Q, fun H'' q => ⟨m, Nat.lt_succ_self _, q⟩, fun x H3 y => ?_⟩
      obtain ⟨x3, h3, q3⟩ := sy x H3 y
      rw [Out.bind_assoc] at hs2
      obtain ⟨zs, S6, ef, hs6⟩ := nox_bind_sat hs2
      rw [← hf] at ef
      unfold turnF2 at ef
      have hF3 : RF (R.h (D' :: R.hid)) r2 H3 (wipeF F (t.slots ++ t1.slots)) (wipe st (t.slots ++ t1.slots)) := (((hF1.later lt).ext x2).ext x3).wipe _
      have nr2 : D' ∉ r2 := (h2.hd D' List.mem_cons_self).1
      have hD3 : H3 D' = some (.lst accV) := x3.keep _ _ hD2 nr2 rfl
      split at ef
      · rename_i F2 eb
        refine hgt _ r2 H3 _ F2 _ d x _ hF3 q3 eb fun st2 hF4 sb => ?_
        refine ⟨?_, D' :: R.hid, r2, F2, S2, h3, hF4, ?_⟩
        · exact wipe_same (t.slots ++ t1.slots) ((wipe_SB st (t.slots ++ t1.slots)).trans (sb.mono fun _ m => List.mem_append_left _ m)) fun _ m => m
        · cases et : evT C rs ifs F2 S2 with
          | bad => rw [et] at ef; cases ef
          | exc _ _ => rw [et] at ef; cases ef
          | ok b S4 =>
            rw [et] at ef
            simp only [Out.bind] at ef
            intro r4 H4 b' x4 h4 eb'
            have eb' : b = b' := eb'
            subst eb'
            have g4 := (g2.ext x3).ext x4
            have hD4 := x4.keep _ _ hD3 nr2 rfl
            cases b with
            | false =>
              simp only [Bool.false_eq_true, if_false] at ef ⊢
              cases ef
              rw [List.append_nil] at hs6
              exact ⟨r4, _, acc, accV, (x2.trans x3).trans x4, h4, hD4, g4, hs6⟩
            | true =>
              simp only [if_true] at ef ⊢
              refine ⟨D' :: R.hid, r4, F2, S4, h4, hF4.ext x4, ?_⟩
              cases ei : evI C rs it1 F2 S4 with
              | bad => rw [ei] at ef; cases ef
              | exc _ _ => rw [ei] at ef; cases ef
              | ok src1 S5 =>
                rw [ei] at ef
                simp only at ef
                intro r5 H5 J1 x5 h5 srv1
                have nr4 : D' ∉ r4 := (h4.hd D' List.mem_cons_self).1
                have g5 := g4.ext x5
                have hD5 := x5.keep _ _ hD4 nr4 rfl
                have hF5 := (hF4.ext x4).ext x5
                have x15 := ((x2.trans x3).trans x4).trans x5
                generalize hf1 : turnF C rs e t1 ifs1 (wipeF F2 t1.slots) = f1 at ef
                refine ⟨fun j k H' => ∃ r6 S6' acc1 accV1, Ext r1 H1 r6 H' ∧ ExtB (R.h (D' :: R.hid)) r5 H5 r6 H' ∧ RS (R.h (D' :: R.hid)) rs r6 S6' H' ∧ H' D' = some (.lst (accV ++ accV1)) ∧ Reps (R.h (D' :: R.hid)) r6 H' acc accV ∧ Reps (R.h (D' :: R.hid)) r6 H' acc1 accV1 ∧ turns f1 src1 k j acc1 S6' = .ok zs S6,
                  ⟨src1.len, r5, S5, [], [], x15, .refl, h5, by rw [List.append_nil]; exact hD5, g5, .nil, ef⟩, ?_⟩
                rintro j k H6 ⟨r6, S6', acc1, accV1, x16, x6, h6, hD6, g6, k6, ef6⟩
                have nr6 : D' ∉ r6 := (h6.hd D' List.mem_cons_self).1
                have sv1 := srv1 (D' :: R.hid) r6 S6' H6 j (fun a m => .inl m) x6 h6
                cases k with
                | zero =>
                  left
                  unfold turns at ef6
                  split at ef6
                  · rename_i es1
                    cases ef6
                    exact ⟨sv1.2 es1, r6, _, _, _, x16, h6, hD6, g6.append k6, hs6⟩
                  · cases ef6
                | succ k =>
                  right
                  simp only [turns] at ef6
                  split at ef6
                  · rename_i d1 es1
                    obtain ⟨sg1, sy1⟩ := sv1.1 d1 es1
                    refine ⟨sg1, fun H'' => ∃ r6 S6' acc1 accV1, Ext r1 H1 r6 H'' ∧ ExtB (R.h (D' :: R.hid)) r5 H5 r6 H'' ∧ RS (R.h (D' :: R.hid)) rs r6 S6' H'' ∧ H'' D' = some (.lst (accV ++ accV1)) ∧ Reps (R.h (D' :: R.hid)) r6 H'' acc accV ∧ Reps (R.h (D' :: R.hid)) r6 H'' acc1 accV1 ∧ turns f1 src1 k (j + 1) acc1 S6' = .ok zs S6, fun H'' q => ⟨k, Nat.lt_succ_self _, q⟩, fun x7 H7 y7 => ?_⟩
                    obtain ⟨x7, h7, q7⟩ := sy1 _ H7 y7
                    obtain ⟨ys, S7, ef7, ef8⟩ := nox_bind_ok ef6
                    rw [← hf1] at ef7
                    unfold turnF at ef7
                    have hF7 : RF (R.h (D' :: R.hid)) r6 H7 (wipeF F2 t1.slots) (wipe st2 t1.slots) := ((hF5.extB x6).ext x7).wipe _
                    have hD7 : H7 D' = some (.lst (accV ++ accV1)) := x7.keep _ _ hD6 nr6 rfl
                    split at ef7
                    · rename_i F7 eb7
                      refine hgt1 _ r6 H7 _ F7 _ d1 _ _ hF7 q7 eb7 fun st3 hF8 sb3 => ?_
                      refine ⟨wipe_same t1.slots ((wipe_SB st2 t1.slots).trans sb3) fun _ m => m, D' :: R.hid, r6, F7, S6', h7, hF8, ?_⟩
                      cases et1 : evT C rs ifs1 F7 S6' with
                      | bad => rw [et1] at ef7; cases ef7
                      | exc _ _ => rw [et1] at ef7; cases ef7
                      | ok b8 S8 =>
                        rw [et1] at ef7
                        simp only [Out.bind] at ef7
                        intro r8 H8 b8' x8 h8 eb8
                        have eb8 : b8 = b8' := eb8
                        subst eb8
                        have hD8 := x8.keep _ _ hD7 nr6 rfl
                        have g8 := (g6.ext x7).ext x8
                        have k8 := (k6.ext x7).ext x8
                        cases b8 with
                        | false =>
                          simp only [Bool.false_eq_true, if_false] at ef7 ⊢
                          cases ef7
                          rw [List.append_nil] at ef8
                          exact ⟨r8, _, acc1, accV1, (x16.trans x7).trans x8, x6.trans' (x7.trans x8) (fun c m => (h8.hd c m).1), h8, hD8, g8, k8, ef8⟩
                        | true =>
                          simp only [if_true] at ef7 ⊢
                          simp only [evG] at ef7
                          refine ⟨D' :: R.hid, r8, F7, S8, h8, hF8.ext x8, ?_⟩
                          cases ee : ev C rs e F7 S8 with
                          | bad => rw [ee] at ef7; cases ef7
                          | exc _ _ => rw [ee] at ef7; cases ef7
                          | ok y9 S9 =>
                            rw [ee] at ef7
                            simp only [Out.bind] at ef7
                            cases ef7
                            intro r9 H9 yv x9 h9 q9
                            have hD9 := x9.keep _ _ hD8 (h8.hd D' List.mem_cons_self).1 rfl
                            have fit6 := turns_fit hs6
                            have gr := turns_grow ef8
                            rw [List.length_append, List.length_singleton] at gr
                            rw [List.length_append] at fit6
                            have hn5 : H5 D' ≠ none := by rw [hD5]; simp
                            refine ⟨accV ++ accV1, hD9, ?_, r9, _, acc1 ++ [y9], accV1 ++ [yv], (((x16.trans x7).trans x8).trans x9).hidw hD, ?_, h9.hidw List.mem_cons_self, ?_, (g8.ext x9).hidw List.mem_cons_self, ?_, ef8⟩
                            · rw [List.length_append, ← g2.length, ← k6.length, ← line_eq]
                              omega
                            · exact (x6.trans' ((x7.trans x8).trans x9) (fun c m => (h9.hd c m).1)).hidw List.mem_cons_self
                            · rw [upd_same, List.append_assoc]
                            · exact Reps.append ((k8.ext x9).hidw List.mem_cons_self) (.cons (q9.hidw List.mem_cons_self) .nil)
                    · cases ef7
                  · cases ef6
      · cases ef
    · exact hs2.elim
theorem se_comp2 {mu : Bool} {e : CE} {t t1 : Tgt} {it it1 : IT} {ifs ifs1 : List CE} {elt tg iter tg1 iter1 : Expr} {ifsE ifsE1 : List Expr} {scope : Scope} {own : List (Str × Nat)} {pos : Pos} {C : Cxt} {g g1 : TG} (hc : X.calm = true) (hN : X.N.Nodup) (hi : SI R W rs X tg iter (evI C rs it)) (ok : BlkOk X.N X.env.scope scope own) (hown : own.map (·.2) = t.slots ++ t1.slots)
    (hg : ∀ (s : Shared) (H : Hp) (C : Addr) (cl : List (Str × Addr)) (fp : List Addr), PG (X.blk s H scope (compEnvC scope cl C X.env) fp) tg g) (hgt : TgOk R t g) (hg1 : ∀ (s : Shared) (H : Hp) (C : Addr) (cl : List (Str × Addr)) (fp : List Addr), PG (X.blk s H scope (compEnvC scope cl C X.env) fp) tg1 g1) (hgt1 : TgOk R t1 g1)
    (ht : ∀ (s : Shared) (H : Hp) (Ca : Addr) (cl : List (Str × Addr)) (fp : List Addr), PTs (X.blk s H scope (compEnvC scope cl Ca X.env) fp) ifsE (tH R rs (fun _ => eqB) (evT C rs ifs)))
    (hi1 : ∀ (s : Shared) (H : Hp) (Ca : Addr) (cl : List (Str × Addr)) (fp : List Addr), PI (X.blk s H scope (compEnvC scope cl Ca X.env) fp) tg1 iter1 (tHI R rs (evI C rs it1)))
    (ht1 : ∀ (s : Shared) (H : Hp) (Ca : Addr) (cl : List (Str × Addr)) (fp : List Addr), PTs (X.blk s H scope (compEnvC scope cl Ca X.env) fp) ifsE1 (tH R rs (fun _ => eqB) (evT C rs ifs1)))
    (he : ∀ (s : Shared) (H : Hp) (Ca : Addr) (cl : List (Str × Addr)) (fp : List Addr), PE (X.blk s H scope (compEnvC scope cl Ca X.env) fp) elt (tH R rs Rep (ev C rs e))) (hs : ∀ x, foldedSetIterable iter X.env x = pure x) (hs1 : ∀ env x, foldedSetIterable iter1 env x = pure x) :
    SE R W rs X (.ListComp elt [⟨tg, iter, ifsE, 0⟩, ⟨tg1, iter1, ifsE1, 0⟩] scope pos) (ev C rs (.comp mu e [.mk t it ifs, .mk t1 it1 ifs1])) :=
  (pe_lc2 (pos := pos) (vs1 := t1.slots) hc hN hi ok (fun i m => by rw [hown]; exact List.mem_append_right _ m) hg ht hi1 hg1 ht1 he hs hs1).imp fun st H Q h => lc2_fact hown hgt hgt1 h
end
end OM
set_option Elab.async false
set_option linter.all false
set_option maxRecDepth 100000
set_option maxHeartbeats 1000000
/-! OmStmt: statements: their evaluator, each from its parts. -/
namespace OM
open PySem PySem.Spec PyProof.Rows L2

inductive OS where
  | nx (F : Fr) (S : Sto)
  | ret (d : D) (S : Sto)
  | brk (F : Fr) (S : Sto)
  | cnt (F : Fr) (S : Sto)
  | exc (x : D) (F : Fr) (S : Sto)
  | bad
def Out.run {α : Type} (o : Out α) (F : Fr) (k : α → Sto → OS) : OS :=
  match o with
  | .ok a S => k a S
  | .exc x S => .exc x F S
  | .bad => .bad
def OS.seq (o : OS) (k : Fr → Sto → OS) : OS :=
  match o with
  | .nx F S => k F S
  | o => o
def turnsS (f : D → Fr → Sto → OS) (s : Src) : Nat → Nat → Fr → Sto → OS
  | 0, i, F, S => match srcAt S s i with
    | some none => .nx F S
    | _ => .bad
  | m + 1, i, F, S => match srcAt S s i with
    | some (some d) => match f d F S with
      | .nx F1 S1 => turnsS f s m (i + 1) F1 S1
      | .cnt F1 S1 => turnsS f s m (i + 1) F1 S1
      | .brk F1 S1 => .nx F1 S1
      | o => o
    | _ => .bad
def whlS (c : Fr → Sto → Out Bool) (f : Fr → Sto → OS) : Nat → Fr → Sto → OS
  | 0, _, _ => .bad
  | n + 1, F, S => (c F S).run F fun b S1 => if b then match f F S1 with
      | .nx F2 S2 => whlS c f n F2 S2
      | .cnt F2 S2 => whlS c f n F2 S2
      | .brk F2 S2 => .nx F2 S2
      | o => o
    else .nx F S1
/-- more turns than any loop here takes -/
def manyTurns : Nat := 1000000
def vSet (rs : List Nat) (o i v : D) (S : Sto) : Option Sto :=
  match o, i with
  | .ref n, .int j => match S[n]? with
    | some (.lst ys) => match place j ys.length with
      | some k => if fitsIn rs n v then some (S.set n (.lst (ys.set k v))) else none
      | none => none
    | _ => none
  | _, _ => none
def vAug (o : BinO) (x y : D) : Option D :=
  match o, x, y with
  | .add, .int i, .int j => some (.int (i + j))
  | .sub, .int i, .int j => some (.int (i - j))
  | _, _, _ => none
mutual
def evS (X : Cxt) (rs : List Nat) : CS → Fr → Sto → OS
  | .exp e, F, S => (ev X rs e F S).run F fun _ S1 => .nx F S1
  | .ret e, F, S => (ev X rs e F S).run F fun d S1 => .ret d S1
  | .retN, F, S => .ret .non S
  | .set i e, F, S => (ev X rs e F S).run F fun d S1 => .nx (F.set i (some d)) S1
  | .unp is e, F, S => (ev X rs e F S).run F fun d S1 => match bindT (.tup is) d F with
    | some F2 => .nx F2 S1
    | none => .bad
  | .par is es, F, S => (evL X rs es F S).run F fun ds S1 => match setN F is ds with
    | some F2 => .nx F2 S1
    | none => .bad
  | .sub o i e, F, S => (ev X rs e F S).run F fun v S1 => (ev X rs o F S1).run F fun ov S2 => (ev X rs i F S2).run F fun iv S3 => match vSet rs ov iv v S3 with
    | some S4 => .nx F S4
    | none => .bad
  | .fld o f e, F, S => (ev X rs e F S).run F fun v S1 => (ev X rs o F S1).run F fun ov S2 => match ov with
    | .ref n => match S2[n]? with
      | some (.obj c ns vs) => if X.cl.fok c f && decide (ns.length < 1000) && decide (ns.length = vs.length) && fitsIn rs n v then .nx F (S2.set n (.obj c (putO f v ns vs).1 (putO f v ns vs).2)) else .bad
      | _ => .bad
    | _ => .bad
  | .aug i o e, F, S => match F[i]? with
    | some (some x) => (ev X rs e F S).run F fun y S1 => match vAug o x y with
      | some z => .nx (F.set i (some z)) S1
      | none => .bad
    | _ => .bad
  | .cond c a b, F, S => (ev X rs c F S).run F fun x S1 => match truth S1 x with
    | some true => evSs X rs a F S1
    | some false => evSs X rs b F S1
    | none => .bad
  | .loop t it b, F, S => (evI X rs it F S).run F fun s S1 => turnsS (fun d F2 S2 => match bindT t d F2 with
      | some F3 => evSs X rs b F3 S2
      | none => .bad) s s.len 0 F S1
  | .whl c b, F, S => whlS (fun F S => (ev X rs c F S).bind fun x S1 => match truth S1 x with
      | some b => .ok b S1
      | none => .bad) (evSs X rs b) manyTurns F S
  | .pas, F, S => .nx F S
  | .raise c as, F, S => match X.cl.exn c with
    | some (tag, tx, fld) => (evL X rs as F S).run F fun ds S1 => if ds.length = fld.toList.length then .exc (.exc c (fld.toList ++ [tag]) (ds ++ [.str tx])) F S1 else .bad
    | none => .bad
  | .nev, _, _ => .bad
  | .brk, F, S => .brk F S
  | .cnt, F, S => .cnt F S
def evSs (X : Cxt) (rs : List Nat) : List CS → Fr → Sto → OS
  | [], F, S => .nx F S
  | s :: r, F, S => (evS X rs s F S).seq (evSs X rs r)
end
/-- a def's answer -/
def OS.out : OS → Out D
  | .nx _ S => .ok .non S
  | .ret d S => .ok d S
  | .exc x _ S => .exc x S
  | _ => .bad
/-- what a def does with its arguments -/
def FD.run (X : Cxt) (F : FD) (vs : List D) (rs : List Nat) (S : Sto) : Out D :=
  (evSs X rs F.body (vs.map some ++ List.replicate (F.ns - vs.length) none) S).out

/-! ### judgements -/
def SatS (R : RP) (W : WX) (rs : List Nat) (r : List Addr) (H : Hp) (o : OS) (D' : Ends) : Prop :=
  match o with
  | .nx F S => ∀ r' H' st, Ext r H r' H' → RS R rs r' S H' → RF R r' H' F st → D'.nx st H'
  | .ret d S => ∀ r' H' v, Ext r H r' H' → RS R rs r' S H' → Rep R r' H' d v → D'.rt v H'
  | .brk F S => ∀ r' H' st, Ext r H r' H' → RS R rs r' S H' → RF R r' H' F st → D'.bk st H'
  | .cnt F S => ∀ r' H' st, Ext r H r' H' → RS R rs r' S H' → RF R r' H' F st → D'.ct st H'
  | .exc x F S => ∀ r' H' st cls dd, Ext r H r' H' → RS R rs r' S H' → RF R r' H' F st → RepX R r' H' x cls dd → W cls dd st H'
  | .bad => False
section
variable {R : RP} {W : WX} {rs : List Nat} {r r1 : List Addr} {H H1 : Hp} {D' : Ends} {st : L2.St} {F : Fr} {S : Sto}
theorem SatS.shift {o : OS} (e : Ext r H r1 H1) (h : SatS R W rs r H o D') : SatS R W rs r1 H1 o D' := by
  cases o with
  | nx F S => exact fun r' H' st e' => h r' H' st (e.trans e')
  | ret d S => exact fun r' H' v e' => h r' H' v (e.trans e')
  | brk F S => exact fun r' H' st e' => h r' H' st (e.trans e')
  | cnt F S => exact fun r' H' st e' => h r' H' st (e.trans e')
  | exc x F S => exact fun r' H' st c d e' => h r' H' st c d (e.trans e')
  | bad => exact h
def tS (R : RP) (W : WX) (rs : List Nat) (g : Fr → Sto → OS) : TS := fun D' st H => ∃ r F S, RS R rs r S H ∧ RF R r H F st ∧ SatS R W rs r H (g F S) D'
theorem bindR {α β : Type} {Rel : List Addr → Hp → α → β → Prop} {g : Fr → Sto → Out α} {f : α → Sto → OS} {Q1 : β → Hp → Prop}
    (h : RS R rs r S H) (hF : RF R r H F st) (hs : SatS R W rs r H ((g F S).run F f) D')
    (k : ∀ r1 S1 H1 a x, Ext r H r1 H1 → RS R rs r1 S1 H1 → RF R r1 H1 F st → Rel r1 H1 a x → SatS R W rs r1 H1 (f a S1) D' → Q1 x H1) : tG R W rs Rel g st H Q1 := by
  refine ⟨r, F, S, h, hF, ?_⟩
  cases e : g F S with
  | ok a S1 =>
    rw [e] at hs
    exact fun r1 H1 x e1 h1 rx => k r1 S1 H1 a x e1 h1 (hF.ext e1) rx (SatS.shift e1 hs)
  | exc x S1 =>
    rw [e] at hs
    exact fun r' H' c d e' h' rx => hs r' H' st c d e' h' (hF.ext e') rx
  | bad => rw [e] at hs; exact hs
theorem SatS.fin {F : Fr} (hs : SatS R W rs r H (.nx F S) D') (h : RS R rs r S H) (q : RF R r H F st) : D'.nx st H := hs r H st (.refl _ _) h q
end
def SS (R : RP) (W : WX) (rs : List Nat) (X : Cx) (s : Stmt) (g : Fr → Sto → OS) : Prop := PS X s (tS R W rs g)
def SSs (R : RP) (W : WX) (rs : List Nat) (X : Cx) (s : List Stmt) (g : Fr → Sto → OS) : Prop := PSs X s (tS R W rs g)

def notComp : Expr → Bool
  | .ListComp _ _ _ _ => false
  | .SetComp _ _ _ _ => false
  | .DictComp _ _ _ _ _ => false
  | _ => true
theorem sw_no {e : Expr} {t : Option Expr} {l : Nat} {env : Env} (h : notComp e = true) : swapsWith e t l env = pure false := by
  cases e <;> first | rfl | cases h
def isName : Expr → Bool
  | .Name _ _ => true
  | _ => false
theorem sw_tg {e t : Expr} {l : Nat} {env : Env} (h : isName t = false) : swapsWithSole [t] e l env = pure false := by
  show swapsWith e (some t) l env = _
  cases t <;> first | (cases e <;> rfl) | cases h
def notTup : Expr → Bool
  | .Tuple _ _ _ => false
  | _ => true
theorem ss_no {t e : Expr} {env : Env} (h : (notTup t || notTup e) = true) (hl : ∀ es p, t ≠ .List es p) : swappedStores [t] e env = pure none := by
  unfold swappedStores
  cases t <;> first | exact absurd rfl (hl _ _) | rfl | (cases e <;> first | rfl | cases h)

section
variable {R : RP} {W : WX} {rs : List Nat} {X : Cx} {N : List Str} {c : Scp}
theorem sss_nil {C : Cxt} : SSs R W rs X [] (evSs C rs []) := by
  refine pss_nil.imp fun D' st H ⟨r, F, S, h, hF, hs⟩ => ?_
  simp only [evSs] at hs
  exact hs.fin h hF
theorem seq_sat {o : OS} {k : Fr → Sto → OS} {r : List Addr} {H : Hp} {D' : Ends} (hs : SatS R W rs r H (o.seq k) D') : SatS R W rs r H o { D' with nx := tS R W rs k D' } := by
  cases o with
  | nx F S => exact fun r' H' st e h hF => ⟨r', F, S, h, hF, SatS.shift e hs⟩
  | ret d S => exact hs
  | brk F S => exact hs
  | cnt F S => exact hs
  | exc x F S => exact hs
  | bad => exact hs
theorem sss_cons {s : CS} {ss : List CS} {e : Stmt} {es : List Stmt} {C : Cxt} (h1 : SS R W rs X e (evS C rs s)) (h2 : SSs R W rs X es (evSs C rs ss)) : SSs R W rs X (e :: es) (evSs C rs (s :: ss)) := by
  refine (pss_cons h1 h2).imp fun D' st H ⟨r, F, S, h, hF, hs⟩ => ?_
  simp only [evSs] at hs
  exact ⟨r, F, S, h, hF, seq_sat hs⟩
theorem ss_pas {pos : Pos} {C : Cxt} : SS R W rs X (.Pass pos) (evS C rs .pas) := by
  refine ps_pass.imp fun D' st H ⟨r, F, S, h, hF, hs⟩ => ?_
  simp only [evS] at hs
  exact hs.fin h hF
theorem ss_brk {pos : Pos} {C : Cxt} : SS R W rs X (.Break pos) (evS C rs .brk) := by
  refine ps_break.imp fun D' st H ⟨r, F, S, h, hF, hs⟩ => ?_
  simp only [evS] at hs
  exact hs r H st (.refl _ _) h hF
theorem ss_cnt {pos : Pos} {C : Cxt} : SS R W rs X (.Continue pos) (evS C rs .cnt) := by
  refine ps_continue.imp fun D' st H ⟨r, F, S, h, hF, hs⟩ => ?_
  simp only [evS] at hs
  exact hs r H st (.refl _ _) h hF
theorem ss_exp {a : CE} {e : Expr} {pos : Pos} {C : Cxt} (he : SE R W rs X e (ev C rs a)) (nc : notComp e = true) : SS R W rs X (.Expr e pos) (evS C rs (.exp a)) := by
  refine (ps_expr (pos := pos) he (sw_no nc)).imp fun D' st H ⟨r, F, S, h, hF, hs⟩ => ?_
  simp only [evS] at hs
  exact bindR h hF hs fun r1 S1 H1 x xv e1 h1 hF1 qx hs => hs.fin h1 hF1
theorem ss_doc {x : Str} {j : Nat} {pos pos' : Pos} {C : Cxt} : SS R W rs X (.Expr (.Constant (.str x) j pos) pos') (evS C rs .pas) := by
  refine ps_doc.imp fun D' st H ⟨r, F, S, h, hF, hs⟩ => ?_
  simp only [evS] at hs
  exact hs.fin h hF
theorem ss_ret {a : CE} {e : Expr} {pos : Pos} {C : Cxt} (he : SE R W rs X e (ev C rs a)) : SS R W rs X (.Return (some e) pos) (evS C rs (.ret a)) := by
  refine (ps_ret (pos := pos) he).imp fun D' st H ⟨r, F, S, h, hF, hs⟩ => ?_
  simp only [evS] at hs
  exact bindR h hF hs fun r1 S1 H1 x xv e1 h1 hF1 qx hs => hs r1 H1 xv (.refl _ _) h1 qx
theorem ss_retN {pos : Pos} {C : Cxt} : SS R W rs X (.Return none pos) (evS C rs .retN) := by
  refine ps_retN.imp fun D' st H ⟨r, F, S, h, hF, hs⟩ => ?_
  simp only [evS] at hs
  exact hs r H .non (.refl _ _) h .non
/-- what stands here is never run -/
theorem ss_nev {s : Stmt} {C : Cxt} : SS R W rs X s (evS C rs .nev) := by
  refine ps_never.imp fun D' st H ⟨r, F, S, h, hF, hs⟩ => ?_
  simp only [evS] at hs
  exact hs.elim
/-- raise x(..) -/
theorem ss_raise {k : Nat} {as : List CE} {es : List Expr} {x : Str} {p cpos pos : Pos} {C : Cxt} {T : Sta} (ok : XOk R N c X) (nh : c.hot = false) (wd : WldX R T c C X) (tk : Takes X W) (ha : SA R W rs X es (evL C rs as)) (hst : es.all noStar = true) (hla : as.length = es.length) (hx : T.cn k = some x) (hg : chkGl c.sc x = true) :
    SS R W rs X (.Raise (some (.Call (.Name x p) es [] cpos)) none pos) (evS C rs (.raise k as)) := by
  obtain ⟨g1, g2⟩ := gl_of ok hg
  refine (ps_raise (pos := pos) (t := fun st H Q => (∃ D' : Ends, tS R W rs (evS C rs (.raise k as)) D' st H) ∧ Q = fun cls d H' => W cls d st H') (ok.calm nh) tk fun pins s st H Q I ⟨⟨D', r, F, S, h, hF, hs⟩, hQ⟩ => ?_).imp fun D' st H q => ⟨⟨D', q⟩, rfl⟩
  subst hQ
  simp only [evS] at hs
  refine wpAny_Call_Name_kw (ld_glob I g1 (wd.cn k x hx) ?_ g2)
  cases en : C.cl.exn k with
  | none => rw [en] at hs; exact hs.elim
  | some z =>
    obtain ⟨tag, tx, fld⟩ := z
    rw [en] at hs
    dsimp only at hs
    obtain ⟨otx, xi⟩ := wd.exn k tag tx fld en
    refine args_runP (QL := fun vs H2 => vs.length = fld.toList.length ∧ ∀ dx, H2 dx = none → W (.ref (R.cadr k)) (some dx) st (upd H2 dx (.xd (xfields (R.an tag) (mkS tx) (fld.map R.an) vs)))) xi.kC ha hst hla I h hF ?_ fun H2 us vs s2 I2 rv ⟨lv, q⟩ => ?_
    · cases e : evL C rs as F S with
      | bad => rw [e] at hs; exact hs.elim
      | exc x' S1 =>
        rw [e] at hs
        exact fun r' H' cls dd e' h' q => hs r' H' st cls dd e' h' (hF.ext e') q
      | ok ds S1 =>
        rw [e] at hs
        simp only [Out.run] at hs
        intro r' H' vs e' h' q
        split at hs
        · rename_i hl
          refine ⟨by rw [← q.length]; exact hl, fun dx hd => ?_⟩
          refine hs r' _ st _ _ (e'.trans (.fresh hd)) (h'.fresh hd) ((hF.ext e').ext (.fresh hd)) ⟨k, _, _, dx, _, rfl, rfl, rfl, upd_same, h'.fre hd, ?_, ?_⟩
          · unfold xfields
            rw [List.map_append, List.map_append]
            congr 1
            cases fld with
            | none => rfl
            | some f =>
              cases vs with
              | nil => cases q; cases hl
              | cons v vs => simp
          · unfold xfields
            rw [List.map_append]
            refine Reps.append ?_ (.cons (.str otx) .nil)
            have e2 : ((Option.map R.an fld).toList.zip vs).map (·.2) = vs := by
              have lv : vs.length = fld.toList.length := by rw [← q.length]; exact hl
              cases fld with
              | none => cases vs with
                | nil => rfl
                | cons _ _ => cases lv
              | some f => cases vs with
                | nil => rfl
                | cons v vs => cases vs with
                  | nil => rfl
                  | cons _ _ => cases lv
            rw [e2]
            exact q.ext (.fresh hd)
        · exact hs.elim
    · exact xmake_raise xi I2 rv (by rw [lv]; cases fld <;> rfl) (by rw [make_depth]; exact ok.dp) q
/-- a name that may be stored -/
def chkSt (N : List Str) (c : Scp) (i : Nat) (x : Str) : Bool := decide (N[i]? = some x) && (isNm c.sc .local x || (isNm c.sc .cell x && c.fn x))
theorem st_of (ok : XOk R N c X) {i : Nat} {x : Str} (h : chkSt N c i x = true) : X.N[i]? = some x ∧ Loc X.env.scope x ∧ (X.fn x = true ∨ X.env.scope.names.lookup x = some .local) := by
  unfold chkSt at h
  simp only [Bool.and_eq_true, Bool.or_eq_true, decide_eq_true_eq] at h
  obtain ⟨h1, h2⟩ := h
  rw [ok.hN]
  rcases h2 with h2 | ⟨h2, h3⟩
  · have := isNm_iff h2
    rw [← ok.sc] at this
    exact ⟨h1, .inl this, .inr this⟩
  · have := isNm_iff h2
    rw [← ok.sc] at this
    exact ⟨h1, .inr this, .inl (by rw [ok.fn]; exact h3)⟩
theorem ss_set {i : Nat} {x : Str} {a : CE} {e : Expr} {pos p : Pos} {C : Cxt} (ok : XOk R N c X) (he : SE R W rs X e (ev C rs a)) (hc : chkSt N c i x = true) (sw : swapsWith e (some (.Name x p)) pos.line X.env = pure false) : SS R W rs X (.Assign [.Name x p] e pos) (evS C rs (.set i a)) := by
  obtain ⟨h1, h2, h3⟩ := st_of ok hc
  refine (ps_set (pos := pos) (pos' := p) (by rw [ok.hN]; exact ok.nd) h1 h2 he sw h3).imp fun D' st H ⟨r, F, S, h, hF, hs⟩ => ?_
  simp only [evS] at hs
  exact bindR h hF hs fun r1 S1 H1 x xv e1 h1 hF1 qx hs => hs.fin h1 (hF1.set qx)
/-- x = [.. for ..] -/
theorem ss_setC {i : Nat} {x : Str} {p spos : Pos} {mu : Bool} {e : CE} {t : Tgt} {it : IT} {ifs : List CE} {elt tg iter : Expr} {ifsE : List Expr} {scope : Scope} {own : List (Str × Nat)} {pos : Pos} {C : Cxt} {g : TG} (xok : XOk R N c X) (nh : c.hot = false) (hi : SI R W rs X tg iter (evI C rs it)) (ok : BlkOk X.N X.env.scope scope own) (hown : own.map (·.2) = t.slots)
    (hg : ∀ (s : Shared) (H : Hp) (C : Addr) (cl : List (Str × Addr)) (fp : List Addr), PG (X.blk s H scope (compEnvC scope cl C X.env) fp) tg g) (hgt : TgOk R t g)
    (ht : ∀ (s : Shared) (H : Hp) (Ca : Addr) (cl : List (Str × Addr)) (fp : List Addr), PTs (X.blk s H scope (compEnvC scope cl Ca X.env) fp) ifsE (tH R rs (fun _ => eqB) (evT C rs ifs)))
    (he : ∀ (s : Shared) (H : Hp) (Ca : Addr) (cl : List (Str × Addr)) (fp : List Addr), PE (X.blk s H scope (compEnvC scope cl Ca X.env) fp) elt (tH R rs Rep (ev C rs e))) (hs : ∀ x, foldedSetIterable iter X.env x = pure x)
    (hx : N[i]? = some x) (hl : isNm c.sc .local x = true) (hk : X.env.scope.kind = .function) (hp : (p.line == pos.line) = true) (hn : (scope.names.any fun (n, k) => n == x && (k == .local || k == .cell)) = false) :
    SS R W rs X (.Assign [.Name x p] (.ListComp elt [⟨tg, iter, ifsE, 0⟩] scope pos) spos) (evS C rs (.set i (.comp mu e [.mk t it ifs]))) := by
  have hy : X.env.scope.names.lookup x = some .local := by rw [xok.sc]; exact isNm_iff hl
  have hN : X.N.Nodup := by rw [xok.hN]; exact xok.nd
  refine (ps_setLc (spos := spos) (xok.calm nh) hN (by rw [xok.hN]; exact hx) hy (sw_true hk hy hp hn) hi ok hg ht he hs).imp fun D' st H ⟨r, F, S, h, hF, hs⟩ => ?_
  simp only [evS] at hs
  exact lc_fact hown hgt (bindR h hF hs fun r1 S1 H1 x xv e1 h1 hF1 qx hs => hs.fin h1 (hF1.set qx))
/-- x = [.. for .. for ..] -/
theorem ss_setC2 {i : Nat} {x : Str} {p spos : Pos} {mu : Bool} {e : CE} {t t1 : Tgt} {it it1 : IT} {ifs ifs1 : List CE} {elt tg iter tg1 iter1 : Expr} {ifsE ifsE1 : List Expr} {scope : Scope} {own : List (Str × Nat)} {pos : Pos} {C : Cxt} {g g1 : TG} (xok : XOk R N c X) (nh : c.hot = false) (hi : SI R W rs X tg iter (evI C rs it)) (ok : BlkOk X.N X.env.scope scope own) (hown : own.map (·.2) = t.slots ++ t1.slots)
    (hg : ∀ (s : Shared) (H : Hp) (C : Addr) (cl : List (Str × Addr)) (fp : List Addr), PG (X.blk s H scope (compEnvC scope cl C X.env) fp) tg g) (hgt : TgOk R t g) (hg1 : ∀ (s : Shared) (H : Hp) (C : Addr) (cl : List (Str × Addr)) (fp : List Addr), PG (X.blk s H scope (compEnvC scope cl C X.env) fp) tg1 g1) (hgt1 : TgOk R t1 g1)
    (ht : ∀ (s : Shared) (H : Hp) (Ca : Addr) (cl : List (Str × Addr)) (fp : List Addr), PTs (X.blk s H scope (compEnvC scope cl Ca X.env) fp) ifsE (tH R rs (fun _ => eqB) (evT C rs ifs)))
    (hi1 : ∀ (s : Shared) (H : Hp) (Ca : Addr) (cl : List (Str × Addr)) (fp : List Addr), PI (X.blk s H scope (compEnvC scope cl Ca X.env) fp) tg1 iter1 (tHI R rs (evI C rs it1)))
    (ht1 : ∀ (s : Shared) (H : Hp) (Ca : Addr) (cl : List (Str × Addr)) (fp : List Addr), PTs (X.blk s H scope (compEnvC scope cl Ca X.env) fp) ifsE1 (tH R rs (fun _ => eqB) (evT C rs ifs1)))
    (he : ∀ (s : Shared) (H : Hp) (Ca : Addr) (cl : List (Str × Addr)) (fp : List Addr), PE (X.blk s H scope (compEnvC scope cl Ca X.env) fp) elt (tH R rs Rep (ev C rs e))) (hs : ∀ x, foldedSetIterable iter X.env x = pure x) (hs1 : ∀ env x, foldedSetIterable iter1 env x = pure x)
    (hx : N[i]? = some x) (hl : isNm c.sc .local x = true) (hk : X.env.scope.kind = .function) (hp : (p.line == pos.line) = true) (hn : (scope.names.any fun (n, k) => n == x && (k == .local || k == .cell)) = false) :
    SS R W rs X (.Assign [.Name x p] (.ListComp elt [⟨tg, iter, ifsE, 0⟩, ⟨tg1, iter1, ifsE1, 0⟩] scope pos) spos) (evS C rs (.set i (.comp mu e [.mk t it ifs, .mk t1 it1 ifs1]))) := by
  have hy : X.env.scope.names.lookup x = some .local := by rw [xok.sc]; exact isNm_iff hl
  have hN : X.N.Nodup := by rw [xok.hN]; exact xok.nd
  refine (ps_setLc2 (spos := spos) (vs1 := t1.slots) (xok.calm nh) hN (by rw [xok.hN]; exact hx) hy (sw_true hk hy hp hn) hi ok (fun i m => by rw [hown]; exact List.mem_append_right _ m) hg ht hi1 hg1 ht1 he hs hs1).imp fun D' st H ⟨r, F, S, h, hF, hs⟩ => ?_
  simp only [evS] at hs
  exact lc2_fact hown hgt hgt1 (bindR h hF hs fun r1 S1 H1 x xv e1 h1 hF1 qx hs => hs.fin h1 (hF1.set qx))
/-- targets that are names -/
def chkNs (N : List Str) (c : Scp) : List Nat → List Expr → Bool
  | [], [] => true
  | i :: is, .Name x _ :: es => chkSt N c i x && chkNs N c is es
  | _, _ => false
theorem pgs_of (ok : XOk R N c X) : ∀ {is : List Nat} {es : List Expr}, chkNs N c is es = true → PGs X es (gNames is) ∧ (assignEach es X.env).length = is.length ∧ (assignEach es X.env).findIdx? (·.1) = none
  | [], [], _ => ⟨pgs_nil, rfl, rfl⟩
  | [], _ :: _, h => by unfold chkNs at h; cases h
  | _ :: _, [], h => by unfold chkNs at h; cases h
  | i :: is, e :: es, h => by
    unfold chkNs at h
    cases e with
    | Name x p =>
      dsimp only at h
      rw [Bool.and_eq_true] at h
      obtain ⟨h1, h2, h3⟩ := st_of ok h.1
      obtain ⟨g1, g2, g3⟩ := pgs_of ok h.2
      refine ⟨pgs_cons (pg_name (by rw [ok.hN]; exact ok.nd) h1 h2 h3) g1, ?_, ?_⟩
      · show (assignEach es X.env).length + 1 = _
        rw [g2]
        rfl
      · have e : assignEach (.Name x p :: es) X.env = (false, assign (.Name x p) X.env) :: assignEach es X.env := rfl
        rw [e, List.findIdx?_cons]
        simp [g3]
    | _ => cases h
def tgOf (R : RP) : Tgt → TG
  | .one i => gName i
  | .tup is => gTup R.K is.length (gNames is)
def chkTg (N : List Str) (c : Scp) : Tgt → Expr → Bool
  | .one i, .Name x _ => chkSt N c i x
  | .tup is, .Tuple es _ _ => !c.hot && chkNs N c is es
  | _, _ => false
theorem tg_ok (t : Tgt) : TgOk R t (tgOf R t) := by
  cases t with
  | one i => exact tg_one i
  | tup is => exact tg_tup is
theorem pg_of (ok : XOk R N c X) {t : Tgt} {e : Expr} (h : chkTg N c t e = true) : PG X e (tgOf R t) := by
  unfold chkTg at h
  split at h
  · obtain ⟨h1, h2, h3⟩ := st_of ok h
    exact pg_name (by rw [ok.hN]; exact ok.nd) h1 h2 h3
  · rw [Bool.and_eq_true, Bool.not_eq_true'] at h
    obtain ⟨g1, g2, g3⟩ := pgs_of ok h.2
    show PG X _ (gTup R.K _ _)
    rw [← ok.K]
    exact pg_tup (ok.calm h.1) g1 g2 g3
  · cases h
theorem ss_unp {is : List Nat} {a : CE} {es : List Expr} {k : Nat} {e : Expr} {pos p : Pos} {C : Cxt} (ok : XOk R N c X) (nh : c.hot = false) (he : SE R W rs X e (ev C rs a)) (hc : chkNs N c is es = true) (sw : swappedStores [.Tuple es k p] e X.env = pure none) : SS R W rs X (.Assign [.Tuple es k p] e pos) (evS C rs (.unp is a)) := by
  refine (ps_asg (pos := pos) he (pg_of ok (t := .tup is) (e := .Tuple es k p) (by unfold chkTg; rw [nh]; exact hc)) (sw_tg rfl) sw).imp fun D' st H ⟨r, F, S, h, hF, hs⟩ => ?_
  simp only [evS] at hs
  refine bindR h hF hs fun r1 S1 H1 x xv e1 h1 hF1 qx hs => ?_
  split at hs
  · rename_i F2 eb
    have ok' : TgOk R (.tup is) (tgOf R (.tup is)) := tg_ok _
    exact ok' R.hid r1 H1 F F2 st x xv _ hF1 qx eb fun st2 hF2 _ => hs.fin h1 hF2
  · exact hs.elim
theorem ss_sub {o i a : CE} {eo ei e : Expr} {pos p : Pos} {C : Cxt} (ok : XOk R N c X) (ho : SE R W rs X eo (ev C rs o)) (hi : SE R W rs X ei (ev C rs i)) (he : SE R W rs X e (ev C rs a)) (ns : noSlice ei = true) : SS R W rs X (.Assign [.Subscript eo ei p] e pos) (evS C rs (.sub o i a)) := by
  refine (ps_asg (pos := pos) he (pg_sub (pos := p) ho hi set_list ?_) (sw_tg rfl) (ss_no rfl (by intro _ _ z; cases z))).imp fun D' st H ⟨r, F, S, h, hF, hs⟩ => ?_
  · intro v
    cases ei <;> first | rfl | cases ns
  simp only [evS] at hs
  refine bindR h hF hs fun r1 S1 H1 v vv e1 h1 hF1 qv hs => bindR h1 hF1 hs fun r2 S2 H2 ov ovv e2 h2 hF2 qo hs => bindR h2 hF2 hs fun r3 S3 H3 iv ivv e3 h3 hF3 qi hs => ?_
  have qv3 := (qv.ext e2).ext e3
  have qo3 := qo.ext e3
  split at hs
  · rename_i S4 es
    unfold vSet at es
    split at es
    · rename_i n j
      cases qi
      cases qo3 with
      | @ref n a z =>
      obtain ⟨cc, u, x1, x2, x3⟩ := h3.at z
      split at es
      · rename_i ys ey
        rw [x1] at ey
        cases ey
        cases x3 with
        | lst g =>
        split at es
        · rename_i k ek
          split at es
          · rename_i fits
            cases es
            refine ⟨a, _, j, k, rfl, rfl, x2, by rw [← g.length]; exact place_ix ek, ?_⟩
            have ma : a ∈ r3 := List.mem_of_getElem? z
            refine hs r3 _ st (.write ma) (h3.write z (.lst ((g.set k qv3).ext (.write ma))) fun m hm hlt => ?_) (hF3.ext (.write ma))
            have lo : ∀ {ds : List D} {d : D} (k : Nat), loL m ds = true → d.lo m = true → loL m (ds.set k d) = true := by
              intro ds
              induction ds with
              | nil => intro d k _ _; rfl
              | cons y ys ih =>
                intro d k h1 h2
                unfold loL at h1
                rw [Bool.and_eq_true] at h1
                cases k with
                | zero => show loL m (d :: ys) = true; unfold loL; rw [h2, h1.2]; rfl
                | succ k => show loL m (y :: ys.set k d) = true; unfold loL; rw [h1.1, ih k h1.2 h2]; rfl
            have fz := (List.all_eq_true.mp fits) m hm
            rw [Bool.or_eq_true, decide_eq_true_eq] at fz
            exact lo k ((h3.reg m hm).2 n _ hlt x1) (fz.resolve_left (by omega))
          · cases es
        · cases es
      · cases es
    · cases es
  · exact hs.elim
theorem loL_set {m : Nat} : ∀ {ds : List D} {d : D} (k : Nat), loL m ds = true → d.lo m = true → loL m (ds.set k d) = true
  | [], _, _, _, _ => rfl
  | y :: ys, d, 0, h1, h2 => by
    unfold loL at h1
    rw [Bool.and_eq_true] at h1
    show loL m (d :: ys) = true
    unfold loL
    rw [h2, h1.2]
    rfl
  | y :: ys, d, k + 1, h1, h2 => by
    unfold loL at h1
    rw [Bool.and_eq_true] at h1
    show loL m (y :: ys.set k d) = true
    unfold loL
    rw [h1.1, loL_set k h1.2 h2]
    rfl
theorem putO_lo {m f : Nat} {v : D} : ∀ {ns : List Nat} {vs : List D}, loL m vs = true → v.lo m = true → loL m (putO f v ns vs).2 = true
  | [], _, _, h2 => by unfold putO; unfold loL; rw [h2]; rfl
  | _ :: _, [], _, h2 => by unfold putO; unfold loL; rw [h2]; rfl
  | n :: ns, d :: ds, h1, h2 => by
    unfold loL at h1
    rw [Bool.and_eq_true] at h1
    unfold putO
    split
    · show loL m (v :: ds) = true
      unfold loL
      rw [h2, h1.2]
      rfl
    · show loL m (d :: (putO f v ns ds).2) = true
      unfold loL
      rw [h1.1, putO_lo h1.2 h2]
      rfl
theorem putO_rep {R : RP} {r : List Addr} {H : Hp} (ani : ∀ x y, R.an x = R.an y → x = y) {f : Nat} {d : D} {v : V} (q : Rep R r H d v) : ∀ {ns : List Nat} {vs : List D} {fs : List (Str × V)}, fs.map (·.1) = ns.map R.an → Reps R r H vs (fs.map (·.2)) →
    (putF (R.an f) v fs).map (·.1) = (putO f d ns vs).1.map R.an ∧ Reps R r H (putO f d ns vs).2 ((putF (R.an f) v fs).map (·.2))
  | [], [], [], _, _ => ⟨rfl, .cons q .nil⟩
  | [], _ :: _, [], _, g => by cases g
  | [], _, _ :: _, m, _ => by simp at m
  | _ :: _, _, [], m, _ => by simp at m
  | _ :: _, [], _ :: _, _, g => by cases g
  | n :: ns, e :: vs, (x, w) :: fs, m, g => by
    simp only [List.map_cons, List.cons.injEq] at m
    obtain ⟨rfl, m⟩ := m
    cases g with
    | cons q0 t =>
      unfold putO putF
      by_cases hn : n = f
      · subst hn
        rw [if_pos rfl, if_pos (beq_self_eq_true _)]
        exact ⟨by simp only [List.map_cons]; rw [m], .cons q t⟩
      · rw [if_neg (fun z => hn (ani _ _ z)), if_neg (by simpa using hn)]
        obtain ⟨i1, i2⟩ := putO_rep ani q m t
        exact ⟨by simp only [List.map_cons]; rw [i1], .cons q0 i2⟩
theorem ss_fld {o a : CE} {f : Nat} {eo e : Expr} {pos p : Pos} {C : Cxt} {T : Sta} (ok : XOk R N c X) (wd : WldX R T c C X) (ho : SE R W rs X eo (ev C rs o)) (he : SE R W rs X e (ev C rs a)) : SS R W rs X (.Assign [.Attribute eo (nmAt T.an f) p] e pos) (evS C rs (.fld o f a)) := by
  have sw : swapsWith e (some (.Attribute eo (nmAt T.an f) p)) pos.line X.env = pure false := sw_tg (e := e) (t := .Attribute eo (nmAt T.an f) p) (l := pos.line) (env := X.env) rfl
  refine (ps_fld (pos := pos) (pos' := p) (f := nmAt T.an f) ho he sw).imp fun D' st H ⟨r, F, S, h, hF, hs⟩ => ?_
  simp only [evS] at hs
  refine bindR h hF hs fun r1 S1 H1 v vv e1 h1 hF1 qv hs => bindR h1 hF1 hs fun r2 S2 H2 ov ovv e2 h2 hF2 qo hs => ?_
  have qv2 := qv.ext e2
  split at hs
  · rename_i n
    cases qo with
    | @ref n a z =>
    obtain ⟨cc, u, x1, x2, x3⟩ := h2.at z
    split at hs
    · rename_i k ns vs ey
      rw [x1] at ey
      cases ey
      cases x3 with
      | @obj _ dx _ _ fs m g =>
      split at hs
      · rename_i hc
        simp only [Bool.and_eq_true, decide_eq_true_eq] at hc
        obtain ⟨⟨⟨c1, c2⟩, c3⟩, c4⟩ := hc
        obtain ⟨cl, na⟩ := wd.fok k f c1
        obtain ⟨i1, i2⟩ := putO_rep wd.ani (f := f) qv2 m g
        have hlen : fs.length = ns.length := by
          have := congrArg List.length m
          rwa [List.length_map, List.length_map] at this
        rw [← wd.an, ok.K]
        have ma : a ∈ r2 := List.mem_of_getElem? z
        refine ⟨a, R.cadr k, dx, fs, rfl, x2, by rw [← ok.K]; exact cl, by rw [← ok.K]; exact na, by omega, ?_⟩
        refine hs r2 _ st (.write ma) (h2.write z (.obj i1 (i2.ext (.write ma))) fun mm hm hlt => ?_) (hF2.ext (.write ma))
        have fz := (List.all_eq_true.mp c4) mm hm
        rw [Bool.or_eq_true, decide_eq_true_eq] at fz
        exact putO_lo ((h2.reg mm hm).2 n _ hlt x1) (fz.resolve_left (by omega))
      · exact hs.elim
    · exact hs.elim
  · exact hs.elim
def augOf : BinO → Operator
  | .sub => .Sub
  | _ => .Add
theorem ss_aug {i : Nat} {x : Str} {o : BinO} {a : CE} {e : Expr} {pos p : Pos} {C : Cxt} (ok : XOk R N c X) (he : SE R W rs X e (ev C rs a)) (hc : chkSt N c i x = true) (hx : Vis X.env.scope x) : SS R W rs X (.AugAssign (.Name x p) (augOf o) e pos) (evS C rs (.aug i o a)) := by
  obtain ⟨h1, h2, h3⟩ := st_of ok hc
  have hN : X.N.Nodup := by rw [ok.hN]; exact ok.nd
  have key : ∀ (f : Int → Int → Int), (∀ x y z, vAug o x y = some z → ∃ i j, x = .int i ∧ y = .int j ∧ z = .int (f i j)) → ∀ D' st H, tS R W rs (evS C rs (.aug i o a)) D' st H → tAug i (tG R W rs (Rep R) (ev C rs a)) (ipI f) D' st H := by
    intro f hf D' st H ⟨r, F, S, h, hF, hs⟩
    simp only [evS] at hs
    split at hs
    · rename_i x ex
      obtain ⟨xv, ev1, qx⟩ := hF.at_ i x ex
      refine ⟨xv, ev1, bindR h hF hs fun r1 S1 H1 y yv e1 h1 hF1 qy hs => ?_⟩
      split at hs
      · rename_i z ez
        obtain ⟨i', j', rfl, rfl, rfl⟩ := hf _ _ _ ez
        cases qx
        cases qy
        exact ⟨_, _, rfl, rfl, hs.fin h1 (hF1.set (.int _))⟩
      · exact hs.elim
    · exact hs.elim
  have none_of : (∀ x y, vAug o x y = none) → ∀ D' st H, tS R W rs (evS C rs (.aug i o a)) D' st H → tAug i (tG R W rs (Rep R) (ev C rs a)) (ipI fun i j => i + j) D' st H := by
    intro hn
    exact key _ fun x y z e => by rw [hn] at e; cases e
  cases o with
  | add =>
    refine (ps_aug (pos := pos) (pos' := p) hN h1 h2 he ip_add h3).imp (key _ fun x y z e => ?_)
    unfold vAug at e
    split at e
    · cases e; exact ⟨_, _, rfl, rfl, rfl⟩
    · rename_i h; cases h
    · cases e
  | sub =>
    refine (ps_aug (pos := pos) (pos' := p) hN h1 h2 he ip_sub h3).imp (key _ fun x y z e => ?_)
    unfold vAug at e
    split at e
    · rename_i h; cases h
    · cases e; exact ⟨_, _, rfl, rfl, rfl⟩
    · cases e
  | mul => exact (ps_aug (pos := pos) (pos' := p) hN h1 h2 he ip_add h3).imp (none_of fun x y => rfl)
  | fdiv => exact (ps_aug (pos := pos) (pos' := p) hN h1 h2 he ip_add h3).imp (none_of fun x y => rfl)
  | mod => exact (ps_aug (pos := pos) (pos' := p) hN h1 h2 he ip_add h3).imp (none_of fun x y => rfl)
  | pow => exact (ps_aug (pos := pos) (pos' := p) hN h1 h2 he ip_add h3).imp (none_of fun x y => rfl)
theorem run_tst {o : Out D} {F : Fr} {f g : Sto → OS} : (o.run F fun x S1 => match truth S1 x with
    | some true => f S1
    | some false => g S1
    | none => .bad) = (tst o).run F fun b S1 => if b then f S1 else g S1 := by
  cases o with
  | ok x S =>
    simp only [Out.run, tst, Out.bind]
    cases truth S x with
    | none => rfl
    | some b => cases b <;> rfl
  | exc x S => rfl
  | bad => rfl
theorem ss_cond {cc : CE} {a b : List CS} {ec : Expr} {ea eb : List Stmt} {pos : Pos} {C : Cxt} (hc : ST R W rs X ec (fun F S => tst (ev C rs cc F S))) (ha : SSs R W rs X ea (evSs C rs a)) (hb : SSs R W rs X eb (evSs C rs b)) : SS R W rs X (.If ec ea eb pos) (evS C rs (.cond cc a b)) := by
  refine (ps_if (pos := pos) hc ha hb).imp fun D' st H ⟨r, F, S, h, hF, hs⟩ => ?_
  simp only [evS, run_tst] at hs
  refine bindR h hF hs fun r1 S1 H1 t tv e1 h1 hF1 qt hs => ?_
  have qt : t = tv := qt
  subst qt
  cases t with
  | true => exact iteT ⟨r1, F, S1, h1, hF1, hs⟩
  | false => exact iteF ⟨r1, F, S1, h1, hF1, hs⟩
theorem later_refl (H : Hp) : Later R H R.hid := fun _ m => .inl m
theorem ss_loop {t : Tgt} {it : IT} {b : List CS} {tg iter : Expr} {eb : List Stmt} {pos : Pos} {C : Cxt} (ok : XOk R N c X) (nh : c.hot = false) (hp : PassesOwn (model X.prog X.w) X.A X.env X.xe) (hi : SI R W rs X tg iter (evI C rs it)) (hg : chkTg N c t tg = true) (hb : SSs R W rs X eb (evSs C rs b)) (hs : ∀ x, foldedSetIterable iter X.env x = pure x) :
    SS R W rs X (.For tg iter eb [] pos) (evS C rs (.loop t it b)) := by
  refine (ps_for (pos := pos) hp (ok.calm nh) hi (pg_of ok hg) hb hs).imp fun D' st H ⟨r, F, S, h, hF, hs⟩ => ?_
  simp only [evS] at hs
  refine bindR h hF hs fun r1 S1 H1 src J e1 h1 hF1 srv hs => ?_
  generalize hf : (fun (d : D) (F2 : Fr) (S2 : Sto) => match bindT t d F2 with
      | some F3 => evSs C rs b F3 S2
      | none => OS.bad) = f at hs
  refine ⟨fun i m st' H' => ∃ r2 F2 S2, Ext r1 H1 r2 H' ∧ RS R rs r2 S2 H' ∧ RF R r2 H' F2 st' ∧ SatS R W rs r2 H' (turnsS f src m i F2 S2) D', ⟨src.len, r1, F, S1, .refl _ _, h1, hF1, hs⟩, ?_⟩
  rintro i m st' H' ⟨r2, F2, S2, x2, h2, hF2, hs2⟩
  have sv := srv R.hid r2 S2 H' i (later_refl H1) x2.b h2
  cases m with
  | zero =>
    left
    unfold turnsS at hs2
    split at hs2
    · rename_i es
      exact ⟨sv.2 es, hs2.fin h2 hF2⟩
    · exact hs2.elim
  | succ m =>
    right
    simp only [turnsS] at hs2
    split at hs2
    · rename_i d es
      obtain ⟨sg, sy⟩ := sv.1 d es
      refine ⟨sg, fun st'' H'' => ∃ r2 F2 S2, Ext r1 H1 r2 H'' ∧ RS R rs r2 S2 H'' ∧ RF R r2 H'' F2 st'' ∧ SatS R W rs r2 H'' (turnsS f src m (i + 1) F2 S2) D', fun st'' H'' q => ⟨m, Nat.lt_succ_self _, q⟩, fun x H3 y => ?_⟩
      obtain ⟨x3, h3, q3⟩ := sy x H3 y
      have hF3 := hF2.ext x3
      have hs3 := SatS.shift x3 hs2
      rw [← hf] at hs3
      dsimp only at hs3
      cases eb : bindT t d F2 with
      | none => rw [eb] at hs3; exact hs3.elim
      | some F4 =>
        rw [eb] at hs3
        dsimp only at hs3
        rw [hf] at hs3
        have tok : TgOk R t (tgOf R t) := tg_ok t
        refine tok R.hid r2 H3 F2 F4 st' d x _ hF3 q3 eb fun st4 hF4 _ => ⟨r2, F4, S2, h3, hF4, ?_⟩
        have xx := x2.trans x3
        cases eo : evSs C rs _ F4 S2 with
        | nx F5 S5 => rw [eo] at hs3; exact fun r5 H5 st5 x5 h5 hF5 => ⟨r5, F5, S5, xx.trans x5, h5, hF5, SatS.shift x5 hs3⟩
        | cnt F5 S5 => rw [eo] at hs3; exact fun r5 H5 st5 x5 h5 hF5 => ⟨r5, F5, S5, xx.trans x5, h5, hF5, SatS.shift x5 hs3⟩
        | brk F5 S5 => rw [eo] at hs3; exact hs3
        | ret d S5 => rw [eo] at hs3; exact hs3
        | exc x F5 S5 => rw [eo] at hs3; exact hs3
        | bad => rw [eo] at hs3; exact hs3
    · exact hs2.elim
theorem ss_whl {cc : CE} {b : List CS} {ec : Expr} {eb : List Stmt} {pos : Pos} {C : Cxt} (hp : PassesOwn (model X.prog X.w) X.A X.env X.xe) (hc : ST R W rs X ec (fun F S => tst (ev C rs cc F S))) (hb : SSs R W rs X eb (evSs C rs b)) : SS R W rs X (.While ec eb [] pos) (evS C rs (.whl cc b)) := by
  refine (ps_while (pos := pos) hp hc hb).imp fun D' st H ⟨r, F, S, h, hF, hs⟩ => ?_
  simp only [evS] at hs
  refine ⟨fun m st H => ∃ r F S, RS R rs r S H ∧ RF R r H F st ∧ SatS R W rs r H (whlS (fun F S => tst (ev C rs cc F S)) (evSs C rs b) m F S) D', ⟨manyTurns, r, F, S, h, hF, hs⟩, ?_⟩
  rintro m st H ⟨r, F, S, h, hF, hs⟩
  cases m with
  | zero => exact hs.elim
  | succ m =>
    simp only [whlS] at hs
    refine bindR h hF hs fun r1 S1 H1 t tv e1 h1 hF1 qt hs => ?_
    have qt : t = tv := qt
    subst qt
    cases t with
    | false => exact iteF (hs.fin h1 hF1)
    | true =>
      refine iteT ⟨fun st H => ∃ r F S, RS R rs r S H ∧ RF R r H F st ∧ SatS R W rs r H (whlS (fun F S => tst (ev C rs cc F S)) (evSs C rs b) m F S) D', fun st' H' q => ⟨m, Nat.lt_succ_self _, q⟩, r1, F, S1, h1, hF1, ?_⟩
      simp only [if_true] at hs
      cases eo : evSs C rs b F S1 with
      | nx F5 S5 => rw [eo] at hs; exact fun r5 H5 st5 x5 h5 hF5 => ⟨r5, F5, S5, h5, hF5, SatS.shift x5 hs⟩
      | cnt F5 S5 => rw [eo] at hs; exact fun r5 H5 st5 x5 h5 hF5 => ⟨r5, F5, S5, h5, hF5, SatS.shift x5 hs⟩
      | brk F5 S5 => rw [eo] at hs; exact hs
      | ret d S5 => rw [eo] at hs; exact hs
      | exc x F5 S5 => rw [eo] at hs; exact hs
      | bad => rw [eo] at hs; exact hs
end
end OM
set_option Elab.async false
set_option linter.all false
set_option maxRecDepth 100000
set_option maxHeartbeats 1000000
/-! OmPar: a, b = x, y. -/
namespace OM
open PySem PySem.Spec PyProof.Rows L2
theorem fm_lt {α β : Type} {f : α → Option β} : ∀ {l : List α} {a : α}, a ∈ l → f a = none → (l.filterMap f).length < l.length
  | b :: l, a, m, e => by
    rw [List.filterMap_cons]
    rcases List.mem_cons.mp m with rfl | m
    · rw [e]
      exact Nat.lt_succ_of_le (List.length_filterMap_le f l)
    · have ih := fm_lt m e
      cases f b with
      | none => exact Nat.lt_succ_of_lt ih
      | some c => exact Nat.succ_lt_succ ih
theorem sw_cell2 {es vs : List Expr} {k k2 : Nat} {p p2 px : Pos} {x : Str} {env : Env} (m : Expr.Name x px ∈ es) (hx : env.kindOf x ≠ some .local) : swappedStores [.Tuple es k p] (.Tuple vs k2 p2) env = pure none := by
  have hk : (env.kindOf x == some NameKind.local) = false := beq_eq_false_iff_ne.mpr hx
  unfold swappedStores
  dsimp only
  split
  · rfl
  · split
    · rfl
    · refine if_pos ?_
      rw [Bool.or_eq_true]
      refine .inl (bne_iff_ne.mpr (Nat.ne_of_lt (fm_lt m ?_)))
      dsimp only
      rw [hk]
      rfl
def hasCell (c : Scp) (es : List Expr) : Bool := es.any fun
  | .Name x _ => isNm c.sc .cell x
  | _ => false
theorem sw_hasCell {c : Scp} {es : List Expr} {k : Nat} {p : Pos} {e : Expr} {env : Env} (hsc : env.scope = c.sc) (h : (notTup e || hasCell c es) = true) : swappedStores [.Tuple es k p] e env = pure none := by
  cases hn : notTup e with
  | true => exact ss_no (by rw [hn, Bool.or_true]) (by intro _ _ z; cases z)
  | false =>
    rw [hn, Bool.false_or] at h
    obtain ⟨t, m, ht⟩ := List.any_eq_true.mp h
    cases t with
    | Name x px =>
      have hk : env.kindOf x = some .cell := by
        show env.scope.names.lookup x = _
        rw [hsc]
        exact isNm_iff ht
      cases e with
      | Tuple vs k2 p2 => exact sw_cell2 m (by rw [hk]; decide)
      | _ => cases hn
    | _ => cases ht
section
variable {R : RP} {W : WX} {rs : List Nat} {X : Cx} {N : List Str} {c : Scp}
def swPar (x y : Str) (px py : Pos) (a b : Expr) : Bool := (px.line == py.line) && !(x == y) && noStar a && noStar b && !([a, b].all (foldedForSure 8)) && !([a, b].all (constantsAlone 8))
theorem sw_par {x y : Str} {px py pt pt2 : Pos} {kt k2 : Nat} {a b : Expr} {env : Env} (hk : env.scope.kind = .function) (hx : env.scope.names.lookup x = some .local) (hy : env.scope.names.lookup y = some .local) (h : swPar x y px py a b = true) :
    swappedStores [.Tuple [.Name x px, .Name y py] kt pt] (.Tuple [a, b] k2 pt2) env = pure (some [x, y]) := by
  unfold swPar at h
  simp only [Bool.and_eq_true, Bool.not_eq_true'] at h
  obtain ⟨⟨⟨⟨⟨h1, h2⟩, h3⟩, h4⟩, h5⟩, h6⟩ := h
  have ky : env.kindOf y = some .local := hy
  have kx : env.kindOf x = some .local := hx
  have hb : env.blockKind = .function := by unfold Env.blockKind; rw [hk]; rfl
  have hl := eq_of_beq h1
  have hne : (x == y) = false := h2
  have hne2 : (y == x) = false := by rw [Bool.eq_false_iff] at hne ⊢; intro z; exact hne (by rw [eq_of_beq z]; exact beq_self_eq_true _)
  unfold swappedStores
  simp only [hb, kx, ky, h5, h6, List.length_cons, List.length_nil, List.filterMap_cons, List.filterMap_nil, List.head?_cons, Option.map_some, Option.getD_some, Expr.pos, hl, beq_self_eq_true, Bool.and_self, if_true]
  have e2 : ([x, y] : List Str).eraseDups = [x, y] := by
    rw [List.eraseDups_cons]
    simp [hne2, List.eraseDups_cons]
  simp [e2]
  rintro (z | z)
  · exfalso
    cases a <;> first | (cases h3; done) | cases z
  · exfalso
    cases b <;> first | (cases h4; done) | cases z
theorem ss_par {i j : Nat} {x y : Str} {as : List CE} {a b : Expr} {px py pt pt2 pos : Pos} {kt k2 : Nat} {C : Cxt} (ok : XOk R N c X) (nh : c.hot = false) (hk : X.env.scope.kind = .function) (hx : isNm c.sc .local x = true) (hy : isNm c.sc .local y = true) (hi : N[i]? = some x) (hj : N[j]? = some y) (hij : i ≠ j)
    (h : swPar x y px py a b = true) (ha : SA R W rs X [a, b] (evL C rs as)) : SS R W rs X (.Assign [.Tuple [.Name x px, .Name y py] kt pt] (.Tuple [a, b] k2 pt2) pos) (evS C rs (.par [i, j] as)) := by
  have hx' : X.env.scope.names.lookup x = some .local := by rw [ok.sc]; exact isNm_iff hx
  have hy' : X.env.scope.names.lookup y = some .local := by rw [ok.sc]; exact isNm_iff hy
  refine (ps_par (pos := pos) (ok.calm nh) (by rw [ok.hN]; exact ok.nd) (by rw [ok.hN]; exact hi) (by rw [ok.hN]; exact hj) hij hx' hy' ha (sw_par hk hx' hy' h) rfl).imp fun D' st H ⟨r, F, S, h, hF, hs⟩ => ?_
  simp only [evS] at hs
  refine bindR h hF hs fun r1 S1 H1 xs vs e1 h1 hF1 qs hs => ?_
  split at hs
  · rename_i F2 eb
    cases qs with
    | nil => unfold setN at eb; cases eb
    | cons q1 t1 =>
      cases t1 with
      | nil => unfold setN setN at eb; cases eb
      | cons q2 t2 =>
        cases t2 with
        | nil =>
          unfold setN setN setN at eb
          cases eb
          exact ⟨_, _, rfl, hs.fin h1 ((hF1.set q1).set q2)⟩
        | cons _ _ => unfold setN setN setN at eb; cases eb
  · exact hs.elim
end
end OM
set_option Elab.async false
set_option linter.all false
set_option maxRecDepth 100000
set_option maxHeartbeats 1000000
/-! OmWhy: fields of exceptions; a def that calls the lambda it is given and tells what comes. -/
namespace OM
open PySem PySem.Spec PyProof.Rows L2
section
variable {R : RP} {W : WX} {rs : List Nat} {X : Cx} {N : List Str} {c : Scp}
theorem se_xat {o : CE} {f : Nat} {eo : Expr} {pos : Pos} {C : Cxt} {T : Sta} (ok : XOk R N c X) (wd : WldX R T c C X) (ho : SE R W rs X eo (ev C rs o)) (nsup : noSuper eo = true) : SE R W rs X (.Attribute eo (nmAt T.an f) pos) (ev C rs (.xat o f)) := by
  refine ⟨fun pins s st H Q I ⟨r, F, S, h, hF, hs⟩ => ?_⟩
  simp only [ev] at hs
  refine attr_of (super_of nsup _) (thn (ho.run pins s st H (fun x H1 => ∃ r1 S1 d, RS R rs r1 S1 H1 ∧ Rep R r1 H1 d x ∧ Sat R W rs st r1 H1 (Rep R) (match d with
    | .exc c ns vs => if C.cl.xok c f then (match lookN f ns vs with
      | some d => .ok d S1
      | none => .bad) else .bad
    | _ => .bad) Q) I (bindG h hF hs fun r1 S1 H1 d x e1 h1 hF1 q hs => ⟨r1, S1, d, h1, q, hs⟩)) fun u s1 ⟨x, H1, I1, rx, r1, S1, d, h1, q, hs⟩ => ?_)
  -- from the object as it stands
  have go : ∀ {a dx : Addr} {k : Nat} {ns : List Nat} {vs : List D} {fs : List (Str × V)} {oe : Obj}, s1.heap.get? a = some oe → oe.cls = .ref (R.cadr k) → oe.dict = some dx → (∃ ws, oe.data = .fields ws) → H1 dx = some (.xd fs) → fs.map (·.1) = ns.map R.an → Reps R r1 H1 vs (fs.map (·.2)) →
      Sat R W rs st r1 H1 (Rep R) (if C.cl.xok k f then (match lookN f ns vs with
        | some d => .ok d S1
        | none => .bad) else .bad) Q → wpAny (model X.prog X.w) X.A (getAttr (.ref a) (nmAt T.an f) true) (EP X pins st Q) X.xe s1 := by
    intro a dx k ns vs fs oe ha hc hd ⟨ws, hw⟩ hx m g hs
    split at hs
    · rename_i hk
      obtain ⟨xc, no⟩ := wd.xok k f hk
      split at hs
      · rename_i d el
        obtain ⟨v, l1, l2⟩ := look_some wd.ani m g el
        obtain ⟨mA, hns, hr⟩ := I1.hok dx _ hx
        obtain ⟨od, h0, hl⟩ := lookIn_ns hns
        obtain ⟨u, hu, ru⟩ := RelO.some_of (v := v) (o := mA (R.an f)) (by rw [← l1]; exact hr (R.an f))
        have J : PySem.W.InstAt s1.heap a oe (R.cadr k) (some od) := ⟨ha, hc, by unfold PySem.W.notCls; rw [hw] <;> rfl, by rw [hd]; exact h0⟩
        rw [← wd.an]
        exact HandSPX.exc_get I1.kIn J xc.ga xc.gg xc.exC (PySem.W.findObj_own xc.hdC no rfl (by rw [hl, hu])) (handed_of ru) ⟨v, H1, I1.tok _, ru, hs.fin h1 l2⟩
      · exact hs.elim
    · exact hs.elim
  cases q with
  | @exc a dx k ns ds fs x1 x2 n1 n2 m g =>
    obtain rfl : u = Value.ref a := rx
    obtain ⟨⟨t1, ha⟩, _, _⟩ := I1.hok a _ x1
    exact go ha rfl rfl ⟨_, rfl⟩ x2 m g hs
  | @pin a dx k ns ds fs x1 x2 n2 m g =>
    obtain rfl : u = Value.ref a := rx
    obtain ⟨oe, p1, p2, p3⟩ := ok.pin _ x1
    exact go (I1.pin _ (List.mem_append_left _ p1)).1 p2.1 p2.2 p3 x2 m g hs
  | _ => exact hs.elim
theorem ext_of {r : List Addr} {H H1 : Hp} (e : LamX.ExtN H H1) : Ext r H r H1 := ⟨fun _ _ => rfl, fun a o q _ t => e a o q fun ps z => (by rw [z] at t; cases t), fun _ m => .inl m⟩
theorem rs_ext {r : List Addr} {S : Sto} {H H1 : Hp} (h : RS R rs r S H) (e : LamX.ExtN H H1) (t : LamX.Tabs R.tabs H1) : RS R rs r S H1 := by
  refine ⟨h.len, h.nd, fun n c q => ?_, h.reg, fun a m => ?_, t⟩
  · obtain ⟨a, o, e1, e2, e3⟩ := h.cell n c q
    refine ⟨a, o, e1, e a o e2 fun ps z => ?_, e3.ext (ext_of e)⟩
    subst z
    cases e3
  · obtain ⟨h1, xs, h2⟩ := h.hd a m
    exact ⟨h1, xs, e a _ h2 fun ps z => by cases z⟩
/-- x(lambda: body) -/
theorem se_why {a : CE} {body : Expr} {scope : Scope} {x : Str} {p lpos pos : Pos} {C : Cxt} {T : Sta} (ok : XOk R N c X) (wd : WldX R T c C X) (hx : T.why = some x) (hg : chkGl c.sc x = true) (hl : c.lam = true) (L : LamX.LamS c.sc scope)
    (hbody : ∀ (A : Around) (outer : List Env) (s : Shared) (H : Hp) (E : XK) (f c' : Addr), Room (C.lvl + 1) (A.deeper (LamX.lamEnv X scope s.heap.objs.size f c')) → SE R (fun cls d _ H => E cls d H) rs (LamX.lamCx X A outer s H E scope f c') body (ev C rs a)) :
    SE R W rs X (.Call (.Name x p) [.Lambda ⟨[], [], none, [], [], none, []⟩ body scope lpos] [] pos) (ev C rs (.why a)) := by
  obtain ⟨g1, _⟩ := gl_of ok hg
  obtain ⟨g, hm, wy⟩ := wd.why x hx
  obtain ⟨room, cd, Pt, hcode, tb, mt, hu⟩ := wd.lamr hl
  obtain ⟨a', pg, bg, sg, dV, kV, doc, pm, cdv, ct, oc, an, od, osl, Ng, lk, hcg, hb, Sg, hNg, hva, d1, d2, d3, gv⟩ := wy.it
  have L' : LamX.LamS X.env.scope scope := by rw [ok.sc]; exact L
  refine (LamX.pe_lamcall (pos := pos) (lpos := lpos) (p := p) (k := C.lvl + 1) (t := fun E => tG R (fun cls d _ H => E cls d H) rs (Rep R) (ev C rs a)) g1 hm wy.kp lk hcg hb Sg hNg hva (gv X _ rfl rfl rfl rfl rfl room) tb hcode mt hu room L' rfl (fun _ _ _ _ _ => rfl) (fun A outer s H E f c' hr => hbody A outer s H E f c' hr) d1 d2 d3).imp fun st H Q ⟨r, F, S, h, hF, hs⟩ => ?_
  refine ⟨h.tabs, fun H1 eN t1 => ?_⟩
  have h1 := rs_ext h eN t1
  have hF1 := hF.ext (ext_of eN)
  have hs := Sat.shift (ext_of eN) hs
  simp only [ev] at hs
  refine ⟨r, F, S, h1, hF1, ?_⟩
  cases e : ev C rs a F S with
  | bad => rw [e] at hs; exact hs.elim
  | ok d S1 =>
    rw [e] at hs
    intro r2 H2 v e2 h2 q
    refine ⟨by rw [sizeLine_eq]; exact Nat.le_of_ble_eq_true rfl, fun pp n => ?_⟩
    exact hs r2 _ _ (e2.trans (.fresh n)) (h2.fresh n) (.tup (.inl ⟨.inl upd_same, h2.fre n⟩) (.cons (.str (by decide)) (.cons (q.ext (.fresh n)) .nil)))
  | exc x' S1 =>
    rw [e] at hs
    intro r2 H2 cls dd e2 h2 qx
    refine ⟨R.hid, r2, S1, x', rs, h2, qx, ?_⟩
    exact nox_sat (Sat.shift e2 hs)
end
end OM
set_option Elab.async false
set_option linter.all false
set_option maxRecDepth 100000
set_option maxHeartbeats 2000000
/-! OmWhy2: try .. except (A, B, C) as e; a def called while an exception is handled. -/
namespace OM
open PySem PySem.Spec PyProof.Rows L2

/-- more objects: it still flies -/
theorem fly_push {B h h' : Heap} {l : List Env} {e : Addr} {Z : Obj → Prop} (k : ∀ b o, h.get? b = some o → h'.get? b = some o) : HandSPX.FlyingZ B l e Z h → HandSPX.FlyingZ B l e Z h'
  | ⟨s1, s2, s3, oe, vs, T, oT, ts, q1, q2, q3, q4, q5, q6, q7, q8, q9⟩ =>
    ⟨fun b o z => k b o (s1 b o z), s2, s3.of_keeps fun b o z _ => ⟨o, k b o z, rfl⟩, oe, vs, T, oT, ts, k _ _ q1, q2, q3, q4, q5, q6, k _ _ q7, q8, q9⟩
/-- what is wanted of an exception that all of cs together take -/
def wTup (K : PySem.W.Frag) (cs : List Value) (i : Nat) (ts : Addr → Value → Option Addr → TS) (D : Ends) : WX := fun cls d σ H =>
  PySem.W.exmAny K cls cs = some true ∧ ∀ a, H a = none → ts a cls d { nx := fun s h => D.nx (s.set i none) h, rt := D.rt, bk := fun s h => D.bk (s.set i none) h, ct := fun s h => D.ct (s.set i none) h } (σ.set i (some (.ref a))) H
section
variable {X : Cx} {n : Str} {c1 c2 c3 : Value} {x1 x2 x3 : Str} {i kk : Nat} {body suite : List Stmt} {b₀ : Stmt} {p1 p2 p3 tp pos' pos : Pos} {tb : WX → TS} {ts : Addr → Value → Option Addr → TS}
theorem try_tup3 (stk : X.stack = X.env :: X.outer) (frm : X.env.frame = some X.env.locals) (nd : X.N.Nodup) (at_ : X.N[i]? = some n) (loc : X.env.kindOf n = some .local) (n1 : Names X x1 c1) (n2 : Names X x2 c2) (n3 : Names X x3 c3)
    (hbody : ∀ (W : WX) (pn : List (Addr × Obj)) (xe : Value → Shared → Prop), Takes (X.tr pn xe) W → PassesOwn (model X.prog X.w) X.A X.env xe → PSs (X.tr pn xe) body (tb W))
    (hsuite : ∀ (a : Addr) (oe : Obj) (cls : Value) (d : Option Addr) (pn : List (Addr × Obj)), Zc cls d oe → (∃ vs, oe.data = .fields vs) → PSs (X.suite a ((a, oe) :: pn)) (b₀ :: suite) (ts a cls d)) :
    PS X (.Try body [.ExceptHandler (some (.Tuple [.Name x1 p1, .Name x2 p2, .Name x3 p3] kk tp)) (some n) (b₀ :: suite) pos'] [] [] pos) (fun D σ H => tb (wTup X.K [c1, c2, c3] i ts D) D σ H) := by
  constructor
  intro pins s σ H D I want
  have ok := I.ok
  have frs' : X.A.frames = some (X.env :: X.outer) := ok.frames.trans (congrArg some stk)
  refine wpAny_Try_except ?_
  let xe' : Value → Shared → Prop := fun e s₁ => wpAny (model X.prog X.w) X.A (noteFrame e X.env) (fun _ sa => wpAny (model X.prog X.w) X.A (setFlight e none) (fun _ sb =>
    wpAny (model X.prog X.w) X.A (handleBy e X.env [.ExceptHandler (some (.Tuple [.Name x1 p1, .Name x2 p2, .Name x3 p3] kk tp)) (some n) (b₀ :: suite) pos']) (SP X pins D) X.xe sb) X.xe sa) X.xe s₁
  have caught : Takes (X.tr (X.pn ++ pins) xe') (wTup X.K [c1, c2, c3] i ts D) := by
    intro u s' air
    obtain ⟨a, B, sI, pins', σ', H', cls, d, hu, J', ground, up, sky, na, os, ag, isin, hyes⟩ := air
    subst hu
    have J : Inv X pins σ' H' sI := J'.ofTry ok
    rw [show (X.tr (X.pn ++ pins) xe').stack = X.env :: X.outer from stk] at sky
    refine Sky.land Zc.steady frs' frm sky fun h3 fl3 up3 => ?_
    have inv_at : ∀ {h : Heap}, HandSPX.FlyingZ B (X.env :: X.outer) a (Zc cls d) h → s'.heap.UpToSlots h → Inv X pins σ' H' { s' with heap := h } := fun fl u => J.landed ground fl.1 (up.trans u) os ag
    have apart : ∀ {h : Heap}, HandSPX.FlyingZ B (X.env :: X.outer) a (Zc cls d) h → ∃ oe vs, h.get? a = some oe ∧ Zc cls d oe ∧ oe.data = .fields vs ∧ a ≠ X.env.locals ∧ a ∉ X.fs := fun {h} fl => by
      obtain ⟨oe, vs, he, hz, hd⟩ := fl.there
      have nfr : a ∉ frs (X.env :: X.outer) := fun hm => by
        obtain ⟨_, o2, e2, hnf⟩ := fl.2.2.1.mem hm
        rw [he] at e2
        cases e2
        exact hnf _ hd
      exact ⟨oe, vs, he, hz, hd, fun z => nfr (List.mem_filterMap.mpr ⟨X.env, List.mem_cons_self, by rw [frm, z]⟩), fun hm => nfr (by
        obtain ⟨e, he, q⟩ := List.mem_filterMap.mp hm
        exact List.mem_filterMap.mpr ⟨e, List.mem_cons_of_mem _ he, q⟩)⟩
    obtain ⟨oe3, vs3, he3, hz3, hd3, nL, nF⟩ := apart fl3
    have J3 := inv_at fl3 up3
    have S3 := J3.suite he3 hd3 na nL nF
    have nm : ∀ {y : Str} {v : Value} {py : Pos} {Q : Value → Shared → Prop} {E : Value → Shared → Prop}, Names X y v → Q v { s' with heap := h3 } → wpAny (model X.prog X.w) (X.A.mark (some (.ref a))) (eval (.Name y py) X.env) Q E { s' with heap := h3 } := fun {y v py Q E} hy q => by
      rcases hy with ⟨k1, k2, k3 | ⟨k3, k4, k5⟩⟩
      · exact ld_glob (X := X.suite a ((a, oe3) :: (X.pn ++ pins))) S3 k1 k3 q k2
      · exact ld_blt (X := X.suite a ((a, oe3) :: (X.pn ++ pins))) S3 k1 k3 k4 q k5 k2
    refine wpAny_handleBy_cons (codeAny_handlers_test ?_) fun z => by cases z
    refine wpAny_Tuple (wpAny_items_cons (nm n1 (wpAny_items_cons (nm n2 (wpAny_items_cons (nm n3 (wpAny_items_nil ⟨by rw [sizeLine_eq]; exact Nat.le_of_ble_eq_true rfl, ?_⟩)))))))
    generalize hh4 : ({ s' with heap := h3 } : Shared).heap.push { cls := .type "tuple", data := .seq [c1, c2, c3].toArray } = h4
    have kp : ∀ b o, h3.get? b = some o → h4.get? b = some o := fun b o z => by rw [← hh4]; exact Heap.get?_push_of_some _ z
    have at4 : h4.get? h3.objs.size = some { cls := .type "tuple", data := .seq [c1, c2, c3].toArray } := by rw [← hh4]; exact Heap.get?_push_size _ rfl
    have ty4 : PySem.W.Looks (model X.prog X.w) h4 (typeOf (.ref a)) cls := fun A Q E s k q => wpAny_typeOf_ref (k _ _ (kp _ _ he3)) (by rw [hz3.1]; exact q)
    have fl4 := fly_push kp fl3
    have up4 : s'.heap.UpToSlots h4 := up3.trans (Heap.UpToSlots.of_keeps kp)
    have K4 : X.K.In h4 := (inv_at fl4 up4).kIn
    refine (PySem.W.exm_tup3 K4 ty4 at4 isin).here ?_
    refine codeAny_handlers_suite_as (HandSPX.lands_againZ fl4 fun h5 fl5 up5 => ?_)
    obtain ⟨oe5, vs5, he5, hz5, hd5, _, _⟩ := apart fl5
    have J5 := inv_at fl5 (up4.trans up5)
    have S5 := J5.suite he5 hd5 na nL nF
    refine store_ok (X := X.suite a ((a, oe5) :: (X.pn ++ pins))) (v := .ref a) S5 nd at_ (.inl loc) rfl (fun s6 S6 => ?_) (.inr loc)
    refine wpAny_mono ((hsuite a oe5 cls d (X.pn ++ pins) hz5 ⟨_, hd5⟩).run [] s6 _ H' _ S6 (hyes a na)) (fun fl s7 hsp => ?_) fun _ _ z => z.elim
    have done : ∀ {σ7 : L2.St} {H7 : Hp} {Q : Shared → Prop}, Inv (X.suite a ((a, oe5) :: (X.pn ++ pins))) [] σ7 H7 s7 → (∀ s8, Inv X pins (σ7.set i none) H7 s8 → Q s8) → wpAny (model X.prog X.w) X.A (do bindName X.env n .none; unbindBehindTheSuite X.env n pos') (fun _ s8 => Q s8) X.xe s7 := fun S7 hq => gone_ok (S7.unsuite ok) nd at_ loc hq
    cases fl with
    | ret u =>
      obtain ⟨v7, σ7, H7, S7, r7, q7⟩ := hsp
      exact done S7 fun s8 J8 => ⟨_, _, _, J8, r7, q7⟩
    | next =>
      obtain ⟨σ7, H7, S7, q7⟩ := hsp
      exact done S7 fun s8 J8 => ⟨_, _, J8, q7⟩
    | brk =>
      obtain ⟨σ7, H7, S7, q7⟩ := hsp
      exact done S7 fun s8 J8 => ⟨_, _, J8, q7⟩
    | cont =>
      obtain ⟨σ7, H7, S7, q7⟩ := hsp
      exact done S7 fun s8 J8 => ⟨_, _, J8, q7⟩
  refine wpAny_mono ((hbody (wTup X.K [c1, c2, c3] i ts D) (X.pn ++ pins) xe' caught PassesOwn.looking).run [] s σ H D (I.toTry _) want) (fun f s1 hsp => ?_) fun _ _ he => he
  cases f with
  | next =>
    obtain ⟨σ1, H1, J1, q1⟩ := hsp
    exact wpAny_execs_nil ⟨σ1, H1, J1.ofTry ok, q1⟩
  | ret u =>
    obtain ⟨v, σ1, H1, J1, r1, q1⟩ := hsp
    exact ⟨v, σ1, H1, J1.ofTry ok, r1, q1⟩
  | brk =>
    obtain ⟨σ1, H1, J1, q1⟩ := hsp
    exact ⟨σ1, H1, J1.ofTry ok, q1⟩
  | cont =>
    obtain ⟨σ1, H1, J1, q1⟩ := hsp
    exact ⟨σ1, H1, J1.ofTry ok, q1⟩
end
end OM
set_option Elab.async false
set_option linter.all false
set_option maxRecDepth 100000
set_option maxHeartbeats 1000000
/-! OmChk: a Bool check that a text's expression, statement is a given one of the small language; what it means. -/
namespace OM
open PySem PySem.Spec PyProof.Rows L2

/-! ### chains as tests -/
theorem chain_bl {o o' : CmpO} {a b d : CE} {C : Cxt} {rs : List Nat} {F : Fr} {S S' : Sto} {v : D} (e : ev C rs (.chain o o' a b d) F S = .ok v S') : ∃ k, v = .bl k := by
  simp only [ev] at e
  cases e1 : ev C rs a F S with
  | bad => rw [e1] at e; cases e
  | exc _ _ => rw [e1] at e; cases e
  | ok x S1 =>
    rw [e1] at e
    simp only [Out.bind] at e
    cases e2 : ev C rs b F S1 with
    | bad => rw [e2] at e; cases e
    | exc _ _ => rw [e2] at e; cases e
    | ok y S2 =>
      rw [e2] at e
      simp only at e
      cases e3 : vCmp o x y S2 with
      | bad => rw [e3] at e; cases e
      | exc _ _ => rw [e3] at e; cases e
      | ok t S3 =>
        rw [e3] at e
        simp only at e
        split at e
        · cases e4 : ev C rs d F S3 with
          | bad => rw [e4] at e; cases e
          | exc _ _ => rw [e4] at e; cases e
          | ok z S4 =>
            rw [e4] at e
            simp only at e
            obtain ⟨k, rfl, _⟩ := vCmp_bl e
            exact ⟨k, rfl⟩
        · cases e; exact ⟨_, rfl⟩
        · cases e
section
variable {R : RP} {W : WX} {rs : List Nat} {X : Cx} {N : List Str} {c : Scp}
theorem st_chain {o o' : CmpO} {a b d : CE} {ea eb ed : Expr} {pos : Pos} {C : Cxt} (ok : XOk R N c X) (ha : SE R W rs X ea (ev C rs a)) (hb : SE R W rs X eb (ev C rs b)) (hd : SE R W rs X ed (ev C rs d)) (ns : noSet ed = true) :
    ST R W rs X (.Compare ea [cmpOf o, cmpOf o'] [eb, ed] pos) (fun F S => tst (ev C rs (.chain o o' a b d) F S)) := by
  refine (pt_chain (pos := pos) (cmp_r ok.un o) (cmp_r ok.un o') ha hb hd (behind_of ns)).imp fun st H Q ⟨r, F, S, h, hF, hs⟩ => ?_
  have hs : Sat R W rs st r H eqB (tst (ev C rs (.chain o o' a b d) F S)) Q := hs
  have hs : Sat R W rs st r H (Rep R) (ev C rs (.chain o o' a b d) F S) (fun z H' => ∃ k, z = .bl k ∧ Q k H') := by
    cases e : ev C rs (.chain o o' a b d) F S with
    | bad => rw [e] at hs; exact hs.elim
    | exc x S1 => rw [e] at hs; exact hs
    | ok v S1 =>
      obtain ⟨k, rfl⟩ := chain_bl e
      rw [e] at hs
      intro r' H' v e' h' q
      cases q
      exact ⟨k, rfl, hs r' H' k e' h' rfl⟩
  show tChain _ _ _ _ _ st H _
  simp only [ev] at hs
  refine bindG h hF hs fun r1 S1 H1 x xv e1 h1 hF1 qx hs => bindG h1 hF1 hs fun r2 S2 H2 y yv e2 h2 hF2 qy hs => ?_
  rw [ok.K]
  refine cmp_v (W := W) (st := st) o h2 (qx.ext e2) qy ?_
  cases ec : vCmp o x y S2 with
  | bad => rw [ec] at hs; exact hs.elim
  | exc z S3 =>
    exfalso
    unfold vCmp at ec
    cases o <;> dsimp only at ec <;> (repeat' split at ec) <;> cases ec
  | ok t S3 =>
    obtain ⟨k, rfl, rfl⟩ := vCmp_bl ec
    rw [ec] at hs
    intro r3 H3 z e3 h3 qz
    cases qz
    refine ⟨k, rfl, ?_⟩
    have hF3 := hF2.ext e3
    have hs := Sat.shift e3 hs
    cases k with
    | true =>
      rw [if_pos rfl]
      refine bindG h3 hF3 hs fun r4 S4 H4 w wv e4 h4 hF4 qw hs => ?_
      exact cmp_v o' h4 ((qy.ext e3).ext e4) qw hs
    | false =>
      rw [if_neg Bool.false_ne_true]
      exact Sat.fin (a := D.bl false) hs h3 (.bl _)
end

/-! ### the check -/
def inScp (c : Scp) (scope : Scope) : Scp := ⟨relS scope c.sc, fun x => scope.names.lookup x == some .cell, c.hot, false⟩
def chkTy (T : Sta) (c : Scp) : D → Expr → Bool
  | .ty k, .Name x _ => decide (k < 7) && decide (k ≠ 0) && decide (x = (tyN k : Str)) && chkGl c.sc x && decide (x ∈ T.bl)
  | _, _ => false
def chkBl (T : Sta) (c : Scp) (n : String) (x : Str) : Bool := decide (x = (n : Str)) && chkGl c.sc x && decide (x ∈ T.bl)
mutual
def chkE (T : Sta) (N : List Str) (c : Scp) : CE → Expr → Bool
  | .slot i, e => (match e with
    | .Name x _ => chkVar N c.sc i x
    | _ => false)
  | .cst d, e => cstOk d e || chkTy T c d e
  | .glo g, e => (match e with
    | .Name x _ => decide (nmAt T.gn g = x) && chkGl c.sc x
    | _ => false)
  | .bin o a b, e => (match e with
    | .BinOp ea op eb _ => decide (op = opOf o) && chkE T N c a ea && chkE T N c b eb
    | _ => false)
  | .neg a, e => (match e with
    | .UnaryOp .USub ea _ => chkE T N c a ea
    | _ => false)
  | .cmp o a b, e => (match e with
    | .Compare ea [op] [eb] _ => decide (op = cmpOf o) && noSet eb && chkE T N c a ea && chkE T N c b eb
    | _ => false)
  | .chain o o' a b d, e => (match e with
    | .Compare ea [op, op'] [eb, ed] _ => decide (op = cmpOf o) && decide (op' = cmpOf o') && noSet ed && chkE T N c a ea && chkE T N c b eb && chkE T N c d ed
    | _ => false)
  | .bop k es, e => (match e with
    | .BoolOp op xs _ => decide (op = bopOf k) && !xs.isEmpty && chkL T N c es xs
    | _ => false)
  | .not a, e => (match e with
    | .UnaryOp .Not ea _ => chkE T N c a ea
    | _ => false)
  | .ite cc a b, e => (match e with
    | .IfExp ec ea eb _ => chkE T N c cc ec && chkE T N c a ea && chkE T N c b eb
    | _ => false)
  | .call _ f as kn ka, e => (match e with
    | .Call (.Name x _) xs ks _ => (T.fd f).isSome && decide (T.gf f = some x) && chkGl c.sc x && xs.all noStar && kwOk T.an kn ks && decide ((as.length, kn) ∈ T.shp f) && decide (as.length = xs.length) && decide (ka.length = kn.length) && chkL T N c as xs && chkK T N c ka ks
    | _ => false)
  | .bcall _ b as, e => (match e with
    | .Call (.Name x _) xs [] _ => !c.hot && chkBl T c (biN b) x && !xs.isEmpty && xs.all noStar && chkL T N c as xs
    | _ => false)
  | .isin a ts, e => (match e with
    | .Call (.Name x _) [ea, .Tuple xs _ _] [] _ => chkBl T c "isinstance" x && noStar ea && decide (xs.length ≠ 0) && decide (xs.length ≤ 100) && decide (ts.length = xs.length) && chkE T N c a ea && chkL T N c ts xs
    | .Call (.Name x _) [ea, et] [] _ => chkBl T c "isinstance" x && noStar ea && noStar et && chkE T N c a ea && chkL T N c ts [et]
    | _ => false)
  | .bmeth b o as, e => (match e with
    | .Call (.Attribute eo n apos) (ea :: xs) [] pos => decide (n = (bmN b : Str)) && noSuper eo && (apos.endLine == pos.line) && noStar ea && xs.all noStar && decide (xs.length < 20) && chkE T N c o eo && chkL T N c as (ea :: xs)
    | _ => false)
  | .meth _ o m as kn ka, e => (match e with
    | .Call (.Attribute eo n apos) xs ks pos => decide (n = nmAt T.an m) && noSuper eo && xs.all noStar && decide (as.length = xs.length) && decide (ka.length = kn.length) && kwOk T.an kn ks && (apos.endLine == pos.line) && decide (xs.length + ks.length < 20) && ((T.mds m).all fun g => decide ((as.length + 1, kn) ∈ T.shp g)) && chkE T N c o eo && chkL T N c as xs && chkK T N c ka ks
    | _ => false)
  | .attr o f, e => (match e with
    | .Attribute eo n _ => decide (n = nmAt T.an f) && noSuper eo && chkE T N c o eo
    | _ => false)
  | .xat o f, e => (match e with
    | .Attribute eo n _ => decide (n = nmAt T.an f) && noSuper eo && chkE T N c o eo
    | _ => false)
  | .why a, e => (match e with
    | .Call (.Name x _) [.Lambda ⟨[], [], none, [], [], none, []⟩ body scope _] [] _ => !c.hot && c.lam && decide (T.why = some x) && chkGl c.sc x && LamX.lamSB c.sc scope && chkE T N ⟨scope, fun _ => false, false, false⟩ a body
    | _ => false)
  | .make _ k as kn ka, e => (match e with
    | .Call (.Name x _) xs ks _ => decide (T.cn k = some x) && chkGl c.sc x && xs.all noStar && decide (as.length = xs.length) && decide (ka.length = kn.length) && kwOk T.an kn ks && (match T.ini k with
      | some g => decide ((as.length + 1, kn) ∈ T.shp g)
      | none => true) && chkL T N c as xs && chkK T N c ka ks
    | _ => false)
  | .smeth _ k m as kn ka, e => (match e with
    | .Call (.Attribute (.Name x _) n apos) xs ks pos => decide (T.cn k = some x) && chkGl c.sc x && decide (n = nmAt T.an m) && xs.all noStar && decide (as.length = xs.length) && decide (ka.length = kn.length) && kwOk T.an kn ks && (apos.endLine == pos.line) && decide (xs.length + ks.length < 20) && (match T.smt k m with
      | some g => decide ((as.length, kn) ∈ T.shp g)
      | none => true) && chkL T N c as xs && chkK T N c ka ks
    | _ => false)
  | .own neg a o m, e => (match e with
    | .Compare ea [op] [eo] _ => decide (op = inOp neg) && noSet eo && decide (nmAt T.an m = ("__contains__" : Str)) && ((T.mds m).all fun g => decide ((2, ([] : List Nat)) ∈ T.shp g)) && chkE T N c a ea && chkE T N c o eo
    | _ => false)
  | .dist a, e => (match e with
    | .Call (.Name x _) [.SetComp (.Name v _) [⟨.Name v' _, iter, [], 0⟩] scope _] [] _ => !c.hot && chkBl T c "len" x && decide (v' = v) && ((scope.names.all fun y => decide (y.2 = .local) && isNm scope .local y.1) && isNm scope .local v) && decide (scope.kind = .function) && !(v == ("__debug__" : Str)) && noSet iter && chkE T N c a iter
    | _ => false)
  | .dsp k _ es st, e => (match e with
    | .Tuple xs _ _ => k && chkDL T N c es st xs
    | .List xs _ => !k && chkDL T N c es st xs
    | _ => false)
  | .idx a b, e => (match e with
    | .Subscript ea eb _ => noSlice eb && chkE T N c a ea && chkE T N c b eb
    | _ => false)
  | .sli a lo hi, e => (match e with
    | .Subscript ea (.Slice el eh none _) _ => chkE T N c a ea && chkO T N c lo el && chkO T N c hi eh
    | _ => false)
  | .tup es, e => (match e with
    | .Tuple xs _ _ => xs.all noStar && chkL T N c es xs
    | _ => false)
  | .lst _ es, e => (match e with
    | .List xs _ => xs.all noStar && chkL T N c es xs
    | _ => false)
  | .comp _ e gs, x => (match x with
    | .ListComp elt [⟨tg, iter, ifs, 0⟩] scope _ => !c.hot && blkC N c.sc scope ((ownOf gs).map fun i => (N.getD i ⟨#[]⟩, i)) && noSet iter && chkG T N c (inScp c scope) gs tg iter ifs && chkE T N (inScp c scope) e elt
    | .ListComp elt [⟨tg, iter, ifs, 0⟩, ⟨tg1, iter1, ifs1, 0⟩] scope _ => !c.hot && blkC N c.sc scope ((ownOf gs).map fun i => (N.getD i ⟨#[]⟩, i)) && noSet iter && noSet iter1 && chkG2 T N c (inScp c scope) gs tg iter ifs tg1 iter1 ifs1 && chkE T N (inScp c scope) e elt
    | _ => false)
def chkL (T : Sta) (N : List Str) (c : Scp) : List CE → List Expr → Bool
  | [], [] => true
  | a :: as, e :: es => chkE T N c a e && chkL T N c as es
  | _, _ => false
def chkDL (T : Sta) (N : List Str) (c : Scp) : List CE → List Bool → List Expr → Bool
  | [], _, [] => true
  | a :: as, st, e :: es => (match e with
    | .Starred e' _ => st.headD false && chkE T N c a e'
    | e => !st.headD false && (noStar e && chkE T N c a e)) && chkDL T N c as st.tail es
  | _, _, _ => false
def chkK (T : Sta) (N : List Str) (c : Scp) : List CE → List Keyword → Bool
  | [], [] => true
  | a :: as, k :: ks => chkE T N c a k.value && chkK T N c as ks
  | _, _ => false
def chkO (T : Sta) (N : List Str) (c : Scp) : List CE → Option Expr → Bool
  | [], none => true
  | [a], some e => chkE T N c a e
  | _, _ => false
def chkG (T : Sta) (N : List Str) (c c' : Scp) : List Gen → Expr → Expr → List Expr → Bool
  | [.mk t it ifs], tg, iter, xs => chkTg N c' t tg && chkI T N c it iter tg && decide (xs.length ≤ 1) && chkL T N c' ifs xs
  | _, _, _, _ => false
def chkG2 (T : Sta) (N : List Str) (c c' : Scp) : List Gen → Expr → Expr → List Expr → Expr → Expr → List Expr → Bool
  | [.mk t it ifs, .mk t1 it1 ifs1], tg, iter, xs, tg1, iter1, xs1 => chkTg N c' t tg && chkI T N c it iter tg && decide (xs.length ≤ 1) && chkL T N c' ifs xs && chkTg N c' t1 tg1 && chkI T N c' it1 iter1 tg1 && decide (xs1.length ≤ 1) && chkL T N c' ifs1 xs1
  | _, _, _, _, _, _, _ => false
def chkI (T : Sta) (N : List Str) (c : Scp) : IT → Expr → Expr → Bool
  | .ov a, e, _ => chkE T N c a e
  | .rng1 b, e, _ => (match e with
    | .Call (.Name x _) [eb] [] _ => chkBl T c "range" x && noStar eb && chkE T N c b eb
    | _ => false)
  | .rng a b, e, _ => (match e with
    | .Call (.Name x _) [ea, eb] [] _ => chkBl T c "range" x && noStar ea && noStar eb && chkE T N c a ea && chkE T N c b eb
    | _ => false)
  | .zip a b, e, tg => (match e with
    | .Call (.Name x _) [ea, eb] [] _ => !notTup tg && chkBl T c "zip" x && noStar ea && noStar eb && chkE T N c a ea && chkE T N c b eb
    | _ => false)
  | .enm a, e, tg => (match e with
    | .Call (.Name x _) [ea] [] _ => !notTup tg && chkBl T c "enumerate" x && noStar ea && chkE T N c a ea
    | _ => false)
end

/-! ### what it means -/
structure Ok2 (R : RP) (W : WX) (rs : List Nat) (X : Cx) (C : Cxt) (a : CE) (e : Expr) : Prop where
  se : SE R W rs X e (ev C rs a)
  st : ST R W rs X e (fun F S => tst (ev C rs a F S))
inductive Ok2s (R : RP) (W : WX) (rs : List Nat) (X : Cx) (C : Cxt) : List CE → List Expr → Prop where
  | nil : Ok2s R W rs X C [] []
  | cons {a : CE} {e : Expr} {as : List CE} {es : List Expr} : Ok2 R W rs X C a e → Ok2s R W rs X C as es → Ok2s R W rs X C (a :: as) (e :: es)
section
variable {R : RP} {W : WX} {rs : List Nat} {X : Cx} {C : Cxt} {N : List Str} {c : Scp}
theorem Ok2.plain {a : CE} {e : Expr} (ok : XOk R N c X) (h : SE R W rs X e (ev C rs a)) (p : plainTest e = true) : Ok2 R W rs X C a e := ⟨h, st_plain ok h p⟩
theorem Ok2s.sa : ∀ {as : List CE} {es : List Expr}, Ok2s R W rs X C as es → es.all noStar = true → SA R W rs X es (evL C rs as)
  | _, _, .nil, _ => sa_nil
  | _, _, .cons h t, s => by
    rw [List.all_cons, Bool.and_eq_true] at s
    exact sa_cons h.se (Ok2s.sa t s.2) s.1
theorem Ok2s.bop {k : Bool} {pos : Pos} (ok : XOk R N c X) : ∀ {as : List CE} {es : List Expr}, Ok2s R W rs X C as es → es.isEmpty = false → PE X (.BoolOp (bopOf k) es pos) (tG R W rs (Rep R) (evB C rs k as)) ∧ PW X (.BoolOp (bopOf k) es pos) (tG R W rs eqB fun F S => tst (evB C rs k as F S))
  | _, _, .nil, h => by cases h
  | _, _, .cons h .nil, _ => ⟨sb_one h.se, tb_one h.st⟩
  | _, _, .cons h (.cons h2 t), _ => by
    obtain ⟨i1, i2⟩ := Ok2s.bop (k := k) (pos := pos) ok (.cons h2 t) rfl
    exact ⟨sb_cons ok h.se i1, tb_cons h.st i2⟩
theorem Ok2s.len : ∀ {as : List CE} {es : List Expr}, Ok2s R W rs X C as es → as.length = es.length
  | _, _, .nil => rfl
  | _, _, .cons _ t => by rw [List.length_cons, List.length_cons, t.len]
end
theorem chkBl_iff {T : Sta} {c : Scp} {n : String} {x : Str} (h : chkBl T c n x = true) : x = (n : Str) ∧ chkGl c.sc x = true ∧ x ∈ T.bl := by
  unfold chkBl at h
  simp only [Bool.and_eq_true, decide_eq_true_eq] at h
  exact ⟨h.1.1, h.1.2, h.2⟩
theorem bm_pa : ∀ b : Bm, PlainAttrs (bmT b)
  | .join => PySem.F.plainAttrs_str
  | .append => PySem.F.plainAttrs_list
theorem bm_slot : ∀ b : Bm, Slot (bmT b) (bmN b) (bmId b)
  | .join => PySem.F.slot_str_join
  | .append => PySem.F.slot_list_append
theorem bm_hty : ∀ b : Bm, typeOf (.builtin (bmId b)) = pure (.type "method_descriptor")
  | .join => PySem.F.type_str_join
  | .append => PySem.F.type_list_append
theorem own_map {N : List Str} (is : List Nat) : (is.map fun i => (N.getD i ⟨#[]⟩, i)).map (·.2) = is := by
  induction is with
  | nil => rfl
  | cons i is ih => rw [List.map_cons, List.map_cons, ih]
theorem Wld.hid {R : RP} {T : Sta} {C : Cxt} {P : Program} {w : World} {K : PySem.W.Frag} {mg : Str → Option Value} {base : Heap} (hid : List Addr) (wd : Wld R T C P w K mg base) : Wld (R.h hid) T C P w K mg base :=
  ⟨wd.an, wd.ani, wd.call0, wd.gf, wd.cn, wd.mth, wd.mds, wd.iniE, wd.smt, wd.smtE, wd.prp, wd.con, wd.fok, wd.ini, wd.pars, wd.glob, wd.bl, wd.exn, wd.xok, fun x e => let ⟨g, m, y⟩ := wd.why x e; ⟨g, m, ⟨y.kp, y.it⟩⟩⟩
theorem WldX.blk {R : RP} {T : Sta} {c : Scp} {C : Cxt} {X : Cx} (hid : List Addr) (wd : WldX R T c C X) {s : Shared} {H : Hp} {scope : Scope} {cenv : Env} {fp : List Addr} : WldX (R.h hid) T (inScp c scope) C (X.blk s H scope cenv fp) :=
  { toWld := wd.toWld.hid hid, room := wd.room, lamr := fun z => by cases z }
theorem XOk.blk {R : RP} {N : List Str} {c : Scp} {X : Cx} (ok : XOk R N c X) (nh : c.hot = false) (hid : List Addr) (s : Shared) (H : Hp) (scope : Scope) (Ca : Addr) (cl : List (Str × Addr)) (fp : List Addr) : XOk (R.h hid) N (inScp c scope) (X.blk s H scope (compEnvC scope cl Ca X.env) fp) :=
  ⟨ok.hN, ok.nd, by show relS scope X.env.scope = relS scope c.sc; rw [ok.sc], rfl, ok.K, ok.calm, fun p hp => (by rw [show (R.h hid).pin = [] from ok.pin0 nh] at hp; cases hp), ok.pin0, ok.un, ok.dp⟩
theorem pe_hid {R : RP} {rs : List Nat} {X : Cx} {e : Expr} {g : Fr → Sto → Out D} (h : ∀ hid, SE (R.h hid) W0 rs X e g) : PE X e (tH R rs Rep g) := ⟨fun pins s st H Q I ⟨hid, q⟩ => (h hid).run pins s st H Q I q⟩
theorem pts_hid {R : RP} {rs : List Nat} {X : Cx} {C : Cxt} {as : List CE} {es : List Expr} (h : ∀ hid, Ok2s (R.h hid) W0 rs X C as es) (hl : es.length ≤ 1) : PTs X es (tH R rs (fun _ => eqB) (evT C rs as)) := by
  match es, hl with
  | [], _ =>
    have e : as = [] := by cases h []; rfl
    subst e
    exact ⟨fun pins s st H Q I ⟨hid, r, F, S, h', hF, hs⟩ => pts_nil.run pins s st H Q I (by
      simp only [evT] at hs
      exact Sat.fin (x := true) hs h' rfl)⟩
  | [e], _ =>
    obtain ⟨a, rfl⟩ : ∃ a, as = [a] := by
      cases h [] with
      | cons h t => cases t; exact ⟨_, rfl⟩
    have pt : PT X e (fun st H Q => ∃ hid, tG (R.h hid) W0 rs eqB (fun F S => tst (ev C rs a F S)) st H Q) := ⟨fun pins s st H Q I ⟨hid, q⟩ => by
      cases h hid with
      | cons h t => exact h.st.run pins s st H Q I q⟩
    refine ⟨fun pins s st H Q I ⟨hid, r, F, S, h', hF, hs⟩ => (pts_one pt).run pins s st H Q I ⟨hid, r, F, S, h', hF, ?_⟩⟩
    have e : evT C rs [a] F S = tst (ev C rs a F S) := by
      simp only [evT, tst]
      congr 1
      funext x S1
      cases truth S1 x with
      | none => rfl
      | some b => cases b <;> rfl
    rw [e] at hs
    exact hs
theorem pi_hid {R : RP} {rs : List Nat} {X : Cx} {tg e : Expr} {g : Fr → Sto → Out Src} (h : ∀ hid, SI (R.h hid) W0 rs X tg e g) : PI X tg e (tHI R rs g) := ⟨fun pins s st H Q I ⟨hid, q⟩ => (h hid).run pins s st H Q I q⟩
theorem takesF {X : Cx} : Takes X W0 := fun _ _ x => by
  obtain ⟨_, _, _, _, _, _, _, _, _, _, _, _, _, _, _, _, f⟩ := x
  exact f.elim
theorem ok_ty {T : Sta} {N : List Str} {c : Scp} {d : D} {e : Expr} {R : RP} {W : WX} {rs : List Nat} {X : Cx} {C : Cxt} (ok : XOk R N c X) (wd : WldX R T c C X) (h : chkTy T c d e = true) : Ok2 R W rs X C (.cst d) e := by
  unfold chkTy at h
  split at h
  · simp only [Bool.and_eq_true, decide_eq_true_eq] at h
    obtain ⟨⟨⟨⟨h1, h2⟩, h3⟩, h4⟩, h5⟩ := h
    exact .plain ok (se_ty ok wd h1 h2 h3 h4 h5) rfl
  · cases h
theorem cst_plain {d : D} {e : Expr} (h : cstOk d e = true) : plainTest e = true := by
  unfold cstOk at h
  split at h <;> first | rfl | cases h
mutual
theorem chkE_ok {T : Sta} {N : List Str} : ∀ (a : CE) {c : Scp} {e : Expr}, chkE T N c a e = true → ∀ {R : RP} {W : WX} {rs : List Nat} {X : Cx} {C : Cxt}, XOk R N c X → WldX R T c C X → Takes X W → Ok2 R W rs X C a e
  | .slot i, c, e, h, R, W, rs, X, C, ok, wd, tk => by
    unfold chkE at h
    split at h
    · exact .plain ok (se_slot ok h) rfl
    · cases h
  | .cst d, c, e, h, R, W, rs, X, C, ok, wd, tk => by
    unfold chkE at h
    rw [Bool.or_eq_true] at h
    rcases h with h | h
    · exact .plain ok (se_cst h) (cst_plain h)
    · exact ok_ty ok wd h
  | .glo g, c, e, h, R, W, rs, X, C, ok, wd, tk => by
    unfold chkE at h
    split at h
    · rw [Bool.and_eq_true, decide_eq_true_eq] at h
      exact .plain ok (se_glo ok wd h.1 h.2) rfl
    · cases h
  | .bin o a b, c, e, h, R, W, rs, X, C, ok, wd, tk => by
    unfold chkE at h
    split at h
    · simp only [Bool.and_eq_true, decide_eq_true_eq] at h
      obtain ⟨⟨rfl, h2⟩, h3⟩ := h
      exact .plain ok (se_bin ok (chkE_ok a h2 ok wd tk).se (chkE_ok b h3 ok wd tk).se) rfl
    · cases h
  | .neg a, c, e, h, R, W, rs, X, C, ok, wd, tk => by
    unfold chkE at h
    split at h
    · exact .plain ok (se_neg ok (chkE_ok a h ok wd tk).se) rfl
    · cases h
  | .cmp o a b, c, e, h, R, W, rs, X, C, ok, wd, tk => by
    unfold chkE at h
    split at h
    · simp only [Bool.and_eq_true, decide_eq_true_eq] at h
      obtain ⟨⟨⟨rfl, h2⟩, h3⟩, h4⟩ := h
      have ia := chkE_ok (T := T) (N := N) a h3 (rs := rs) ok wd tk
      have ib := chkE_ok (T := T) (N := N) b h4 (rs := rs) ok wd tk
      exact ⟨se_cmp ok ia.se ib.se h2, st_cmp ok ia.se ib.se h2⟩
    · cases h
  | .chain o o' a b d, c, e, h, R, W, rs, X, C, ok, wd, tk => by
    unfold chkE at h
    split at h
    · simp only [Bool.and_eq_true, decide_eq_true_eq] at h
      obtain ⟨⟨⟨⟨⟨rfl, rfl⟩, h2⟩, h3⟩, h4⟩, h5⟩ := h
      have ia := chkE_ok (T := T) (N := N) a h3 (rs := rs) ok wd tk
      have ib := chkE_ok (T := T) (N := N) b h4 (rs := rs) ok wd tk
      have id := chkE_ok (T := T) (N := N) d h5 (rs := rs) ok wd tk
      exact ⟨se_chain ok ia.se ib.se id.se h2, st_chain ok ia.se ib.se id.se h2⟩
    · cases h
  | .bop k es, c, e, h, R, W, rs, X, C, ok, wd, tk => by
    unfold chkE at h
    split at h
    · simp only [Bool.and_eq_true, decide_eq_true_eq, Bool.not_eq_true'] at h
      obtain ⟨⟨rfl, h2⟩, h3⟩ := h
      have i := chkL_ok (T := T) (N := N) es h3 (rs := rs) ok wd tk
      obtain ⟨i1, i2⟩ := i.bop (k := k) ok h2
      refine ⟨i1.imp fun st H Q ⟨r, F, S, h, hF, hs⟩ => ⟨r, F, S, h, hF, ?_⟩, (i2.pt).imp fun st H Q ⟨r, F, S, h, hF, hs⟩ => ⟨r, F, S, h, hF, ?_⟩⟩
      · simpa only [ev] using hs
      · simpa only [ev] using hs
    · cases h
  | .not a, c, e, h, R, W, rs, X, C, ok, wd, tk => by
    unfold chkE at h
    split at h
    · have ia := chkE_ok (T := T) (N := N) a h (rs := rs) ok wd tk
      exact ⟨se_not ok ia.se, st_not ok ia.st⟩
    · cases h
  | .ite cc a b, c, e, h, R, W, rs, X, C, ok, wd, tk => by
    unfold chkE at h
    split at h
    · simp only [Bool.and_eq_true] at h
      obtain ⟨⟨h1, h2⟩, h3⟩ := h
      have ic := chkE_ok (T := T) (N := N) cc h1 (rs := rs) ok wd tk
      have ia := chkE_ok (T := T) (N := N) a h2 (rs := rs) ok wd tk
      have ib := chkE_ok (T := T) (N := N) b h3 (rs := rs) ok wd tk
      exact ⟨se_ite ic.st ia.se ib.se, st_ite ic.st ia.st ib.st⟩
    · cases h
  | .call kp f as kn ka, c, e, h, R, W, rs, X, C, ok, wd, tk => by
    unfold chkE at h
    split at h
    · simp only [Bool.and_eq_true, decide_eq_true_eq] at h
      obtain ⟨⟨⟨⟨⟨⟨⟨⟨⟨h1, h2⟩, h3⟩, h4⟩, h5⟩, h6⟩, h7⟩, h8⟩, h9⟩, h10⟩ := h
      obtain ⟨F, hf⟩ := Option.isSome_iff_exists.mp h1
      have ik : SK R W rs X _ (evL C rs ka) := chkK_ok (T := T) (N := N) ka h10 (rs := rs) ok wd tk
      have ia := chkL_ok (T := T) (N := N) as h9 (rs := rs) ok wd tk
      refine .plain ok ?_ rfl
      cases ia with
      | nil => exact se_call0 ok wd tk hf h2 h3 ik h5 h6 h8
      | cons q t =>
        exact se_call ok wd tk hf h2 h3 (Ok2s.sa (.cons q t) h4) ik h4 h5 h6 h7 h8
    · cases h
  | .bcall mu b as, c, e, h, R, W, rs, X, C, ok, wd, tk => by
    unfold chkE at h
    split at h
    · simp only [Bool.and_eq_true, Bool.not_eq_true'] at h
      obtain ⟨⟨⟨⟨h0, h1⟩, h2⟩, h3⟩, h4⟩ := h
      obtain ⟨k1, k2, k3⟩ := chkBl_iff h1
      have ia := chkL_ok (T := T) (N := N) as h4 (rs := rs) ok wd tk
      refine .plain ok ?_ rfl
      cases ia with
      | nil => cases h2
      | cons q t =>
        have h3' := h3
        rw [List.all_cons, Bool.and_eq_true] at h3'
        exact se_bcall ok wd (Ok2s.sa (.cons q t) h3) k1 k2 k3 h3'.1 h3'.2 h0
    · cases h
  | .isin a ts, c, e, h, R, W, rs, X, C, ok, wd, tk => by
    unfold chkE at h
    split at h
    · simp only [Bool.and_eq_true, decide_eq_true_eq] at h
      obtain ⟨⟨⟨⟨⟨⟨h1, h2⟩, h3⟩, h4⟩, h5⟩, h6⟩, h7⟩ := h
      obtain ⟨k1, k2, k3⟩ := chkBl_iff h1
      have ia := chkE_ok (T := T) (N := N) a h6 (rs := rs) ok wd tk
      have it := chkL_ok (T := T) (N := N) ts h7 (rs := rs) ok wd tk
      have hst : ∀ {as : List CE} {es : List Expr}, chkL T N c as es = true → es.all noStar = true := by
        intro as
        induction as with
        | nil => intro es h; cases es with
          | nil => rfl
          | cons _ _ => unfold chkL at h; cases h
        | cons a as ih => intro es h; cases es with
          | nil => unfold chkL at h; cases h
          | cons e es =>
            unfold chkL at h
            rw [Bool.and_eq_true] at h
            rw [List.all_cons, ih h.2, Bool.and_true]
            have h1 := h.1
            cases e with
            | Starred v p => cases a <;> simp [chkE, cstOk, chkTy] at h1
            | _ => rfl
      exact .plain ok (se_isinT ok wd ia.se (it.sa (hst h7)) k1 k2 k3 h2 h3 h4 h5) rfl
    · simp only [Bool.and_eq_true] at h
      obtain ⟨⟨⟨⟨h1, h2⟩, h3⟩, h4⟩, h5⟩ := h
      obtain ⟨k1, k2, k3⟩ := chkBl_iff h1
      have ia := chkE_ok (T := T) (N := N) a h4 (rs := rs) ok wd tk
      have it := chkL_ok (T := T) (N := N) ts h5 (rs := rs) ok wd tk
      cases it with
      | cons q t => cases t; exact .plain ok (se_isin1 ok wd ia.se q.se k1 k2 k3 h2 h3) rfl
    · cases h
  | .bmeth b o as, c, e, h, R, W, rs, X, C, ok, wd, tk => by
    unfold chkE at h
    split at h
    · simp only [Bool.and_eq_true, decide_eq_true_eq] at h
      obtain ⟨⟨⟨⟨⟨⟨⟨h1, h2⟩, h3⟩, h4⟩, h5⟩, h6⟩, h7⟩, h8⟩ := h
      subst h1
      have io := chkE_ok (T := T) (N := N) o h7 (rs := rs) ok wd tk
      have ia := chkL_ok (T := T) (N := N) as h8 (rs := rs) ok wd tk
      exact .plain ok (se_bmeth ok io.se (ia.sa (by rw [List.all_cons, h4, h5]; rfl)) h2 h3 h4 h5 h6 (bm_pa b) (bm_slot b) (bm_hty b)) rfl
    · cases h
  | .meth kp o m as kn ka, c, e, h, R, W, rs, X, C, ok, wd, tk => by
    unfold chkE at h
    split at h
    · simp only [Bool.and_eq_true, decide_eq_true_eq] at h
      obtain ⟨⟨⟨⟨⟨⟨⟨⟨⟨⟨⟨rfl, h2⟩, h3⟩, h4⟩, h5⟩, h6⟩, h7⟩, h8⟩, h9⟩, h10⟩, h11⟩, h12⟩ := h
      exact .plain ok (se_meth ok wd tk (chkE_ok o h10 ok wd tk).se ((chkL_ok as h11 ok wd tk).sa h3) (chkK_ok ka h12 ok wd tk) h2 h3 h4 h5 h6 h7 h8 fun c g q => of_decide_eq_true (List.all_eq_true.mp h9 g (wd.mds c m g q))) rfl
    · cases h
  | .attr o f, c, e, h, R, W, rs, X, C, ok, wd, tk => by
    unfold chkE at h
    split at h
    · simp only [Bool.and_eq_true, decide_eq_true_eq] at h
      obtain ⟨⟨rfl, h2⟩, h3⟩ := h
      exact .plain ok (se_attr ok wd (chkE_ok o h3 ok wd tk).se h2) rfl
    · cases h
  | .xat o f, c, e, h, R, W, rs, X, C, ok, wd, tk => by
    unfold chkE at h
    split at h
    · simp only [Bool.and_eq_true, decide_eq_true_eq] at h
      obtain ⟨⟨rfl, h2⟩, h3⟩ := h
      exact .plain ok (se_xat ok wd (chkE_ok o h3 ok wd tk).se h2) rfl
    · cases h
  | .why a, c, e, h, R, W, rs, X, C, ok, wd, tk => by
    unfold chkE at h
    split at h
    · simp only [Bool.and_eq_true, Bool.not_eq_true', decide_eq_true_eq] at h
      obtain ⟨⟨⟨⟨⟨h0, h1⟩, h2⟩, h3⟩, h4⟩, h5⟩ := h
      refine .plain ok (se_why ok wd h2 h3 h1 (LamX.lamS_by h4) fun A outer s H E f c' hr => ?_) rfl
      rename_i x1 q1 bd scp q2 q3
      have dp := hr.dp
      have ok2 : XOk R N ⟨scp, fun _ => false, false, false⟩ (LamX.lamCx X A outer s H E scp f c') :=
        { hN := ok.hN, nd := ok.nd, sc := rfl, fn := rfl, K := ok.K, calm := fun _ => rfl, pin := fun p hp => (by rw [ok.pin0 h0] at hp; cases hp), pin0 := fun _ => ok.pin0 h0, un := hr.units, dp := (by show (A.deeper _).depth + 1 < recursionLimit; omega) }
      have wd2 : WldX R T ⟨scp, fun _ => false, false, false⟩ C (LamX.lamCx X A outer s H E scp f c') := { toWld := wd.toWld, room := fun _ _ _ => hr, lamr := fun z => (by cases (show false = true from z)) }
      exact (chkE_ok a h5 ok2 wd2 (takes_of rfl rfl rfl rfl)).se
    · cases h
  | .make kp k as kn ka, c, e, h, R, W, rs, X, C, ok, wd, tk => by
    unfold chkE at h
    split at h
    · simp only [Bool.and_eq_true, decide_eq_true_eq] at h
      obtain ⟨⟨⟨⟨⟨⟨⟨⟨h1, h2⟩, h3⟩, h4⟩, h5⟩, h6⟩, h7⟩, h8⟩, h9⟩ := h
      refine .plain ok (se_make ok wd tk ((chkL_ok as h8 ok wd tk).sa h3) (chkK_ok ka h9 ok wd tk) h1 h2 h3 h4 h5 h6 fun g q => ?_) rfl
      rw [wd.iniE] at q
      rw [q] at h7
      exact of_decide_eq_true h7
    · cases h
  | .smeth kp k m as kn ka, c, e, h, R, W, rs, X, C, ok, wd, tk => by
    unfold chkE at h
    split at h
    · simp only [Bool.and_eq_true, decide_eq_true_eq] at h
      obtain ⟨⟨⟨⟨⟨⟨⟨⟨⟨⟨⟨h1, h2⟩, rfl⟩, h3⟩, h4⟩, h5⟩, h6⟩, h7⟩, h8⟩, h9⟩, h10⟩, h11⟩ := h
      refine .plain ok (se_smeth ok wd tk ((chkL_ok as h10 ok wd tk).sa h3) (chkK_ok ka h11 ok wd tk) h1 h2 h3 h4 h5 h6 h7 h8 fun g q => ?_) rfl
      rw [wd.smtE] at q
      rw [q] at h9
      exact of_decide_eq_true h9
    · cases h
  | .own neg a o m, c, e, h, R, W, rs, X, C, ok, wd, tk => by
    unfold chkE at h
    split at h
    · simp only [Bool.and_eq_true, decide_eq_true_eq] at h
      obtain ⟨⟨⟨⟨⟨rfl, h2⟩, h3⟩, h4⟩, h5⟩, h6⟩ := h
      have hsh : ∀ c g, C.cl.mth c m = some g → (2, ([] : List Nat)) ∈ T.shp g := fun c g q => of_decide_eq_true (List.all_eq_true.mp h4 g (wd.mds c m g q))
      exact ⟨se_own ok wd tk (chkE_ok a h5 ok wd tk).se (chkE_ok o h6 ok wd tk).se h2 h3 hsh, st_own ok wd tk (chkE_ok a h5 ok wd tk).se (chkE_ok o h6 ok wd tk).se h2 h3 hsh⟩
    · cases h
  | .dist a, c, e, h, R, W, rs, X, C, ok, wd, tk => by
    unfold chkE at h
    split at h
    · simp only [Bool.and_eq_true, Bool.not_eq_true', decide_eq_true_eq] at h
      obtain ⟨⟨⟨⟨⟨⟨⟨h0, h1⟩, rfl⟩, h3⟩, h4⟩, h5⟩, h6⟩, h7⟩ := h
      obtain ⟨k1, k2, k3⟩ := chkBl_iff h1
      exact .plain ok (se_dist ok h0 wd (chkE_ok a h7 ok wd tk).se k1 k2 k3 (fun y hy => (by
        have z := List.all_eq_true.mp h3.1 y hy
        rw [Bool.and_eq_true, decide_eq_true_eq] at z
        exact ⟨z.1, isNm_iff z.2⟩)) (isNm_iff h3.2) h4 h5 h6) rfl
    · cases h
  | .dsp k mu es st, c, e, h, R, W, rs, X, C, ok, wd, tk => by
    unfold chkE at h
    split at h
    · rw [Bool.and_eq_true] at h
      obtain ⟨rfl, h2⟩ := h
      exact .plain ok (se_dspT (chkDL_ok es h2 ok wd tk)) rfl
    · rw [Bool.and_eq_true, Bool.not_eq_true'] at h
      obtain ⟨rfl, h2⟩ := h
      exact .plain ok (se_dspL (chkDL_ok es h2 ok wd tk)) rfl
    · cases h
  | .idx a b, c, e, h, R, W, rs, X, C, ok, wd, tk => by
    unfold chkE at h
    split at h
    · simp only [Bool.and_eq_true] at h
      obtain ⟨⟨h1, h2⟩, h3⟩ := h
      exact .plain ok (se_idx ok (chkE_ok a h2 ok wd tk).se (chkE_ok b h3 ok wd tk).se h1) rfl
    · cases h
  | .sli a lo hi, c, e, h, R, W, rs, X, C, ok, wd, tk => by
    unfold chkE at h
    split at h
    · simp only [Bool.and_eq_true] at h
      obtain ⟨⟨h1, h2⟩, h3⟩ := h
      exact .plain ok (se_sli ok (chkE_ok a h1 ok wd tk).se (chkO_ok lo h2 ok wd tk) (chkO_ok hi h3 ok wd tk)) rfl
    · cases h
  | .tup es, c, e, h, R, W, rs, X, C, ok, wd, tk => by
    unfold chkE at h
    split at h
    · simp only [Bool.and_eq_true] at h
      exact .plain ok (se_tup ((chkL_ok es h.2 ok wd tk).sa h.1)) rfl
    · cases h
  | .lst mu es, c, e, h, R, W, rs, X, C, ok, wd, tk => by
    unfold chkE at h
    split at h
    · simp only [Bool.and_eq_true] at h
      exact .plain ok (se_lst ((chkL_ok es h.2 ok wd tk).sa h.1)) rfl
    · cases h
  | .comp mu e gs, c, x, h, R, W, rs, X, C, ok, wd, tk => by
    unfold chkE at h
    split at h
    · rename_i elt tg iter ifs scope pos
      simp only [Bool.and_eq_true, Bool.not_eq_true'] at h
      obtain ⟨⟨⟨⟨h0, h1⟩, h2⟩, h3⟩, h4⟩ := h
      have bo := blkOk_by h1
      obtain ⟨t, it, ifc, rfl, hg, hi, hl, hif⟩ := chkG_ok (T := T) (N := N) gs h3
      simp only [ownOf, List.append_nil] at bo
      refine .plain ok (se_comp1 (g := tgOf R t) (ok.calm h0) (by rw [ok.hN]; exact ok.nd) (hi ok wd tk) (by rw [ok.hN, ok.sc]; exact bo) (own_map _) (fun s H Ca cl fp => ?_) (tg_ok t) (fun s H Ca cl fp => ?_) (fun s H Ca cl fp => ?_) (folded_of h2)) rfl
      · exact pg_of (ok.blk h0 R.hid s H scope Ca cl fp) hg
      · exact pts_hid (fun hid => hif (ok.blk h0 hid s H scope Ca cl fp) (wd.blk hid) takesF) hl
      · exact pe_hid fun hid => (chkE_ok e h4 (ok.blk h0 hid s H scope Ca cl fp) (wd.blk hid) takesF).se
    · rename_i elt tg iter ifs tg1 iter1 ifs1 scope pos
      simp only [Bool.and_eq_true, Bool.not_eq_true'] at h
      obtain ⟨⟨⟨⟨⟨h0, h1⟩, h2⟩, h2'⟩, h3⟩, h4⟩ := h
      have bo := blkOk_by h1
      obtain ⟨t, it, ifc, t1, it1, ifc1, rfl, hg, hi, hl, hif, hg1, hi1, hl1, hif1⟩ := chkG2_ok (T := T) (N := N) gs h3
      simp only [ownOf, List.append_nil] at bo
      refine .plain ok (se_comp2 (g := tgOf R t) (g1 := tgOf R t1) (ok.calm h0) (by rw [ok.hN]; exact ok.nd) (hi ok wd tk) (by rw [ok.hN, ok.sc]; exact bo) (own_map _) (fun s H Ca cl fp => ?_) (tg_ok t) (fun s H Ca cl fp => ?_) (tg_ok t1) (fun s H Ca cl fp => ?_) (fun s H Ca cl fp => ?_) (fun s H Ca cl fp => ?_) (fun s H Ca cl fp => ?_) (folded_of h2) (fun env => folded_of h2')) rfl
      · exact pg_of (ok.blk h0 R.hid s H scope Ca cl fp) hg
      · exact pg_of (ok.blk h0 R.hid s H scope Ca cl fp) hg1
      · exact pts_hid (fun hid => hif (ok.blk h0 hid s H scope Ca cl fp) (wd.blk hid) takesF) hl
      · exact pi_hid fun hid => hi1 (ok.blk h0 hid s H scope Ca cl fp) (wd.blk hid) takesF
      · exact pts_hid (fun hid => hif1 (ok.blk h0 hid s H scope Ca cl fp) (wd.blk hid) takesF) hl1
      · exact pe_hid fun hid => (chkE_ok e h4 (ok.blk h0 hid s H scope Ca cl fp) (wd.blk hid) takesF).se
    · cases h
theorem chkL_ok {T : Sta} {N : List Str} : ∀ (as : List CE) {c : Scp} {es : List Expr}, chkL T N c as es = true → ∀ {R : RP} {W : WX} {rs : List Nat} {X : Cx} {C : Cxt}, XOk R N c X → WldX R T c C X → Takes X W → Ok2s R W rs X C as es
  | [], c, [], _, _, _, _, _, _, _, _, _ => .nil
  | [], c, _ :: _, h, _, _, _, _, _, _, _, _ => by unfold chkL at h; cases h
  | _ :: _, c, [], h, _, _, _, _, _, _, _, _ => by unfold chkL at h; cases h
  | a :: as, c, e :: es, h, R, W, rs, X, C, ok, wd, tk => by
    unfold chkL at h
    rw [Bool.and_eq_true] at h
    exact .cons (chkE_ok a h.1 ok wd tk) (chkL_ok as h.2 ok wd tk)
theorem chkDL_ok {T : Sta} {N : List Str} : ∀ (as : List CE) {c : Scp} {st : List Bool} {es : List Expr}, chkDL T N c as st es = true → ∀ {R : RP} {W : WX} {rs : List Nat} {X : Cx} {C : Cxt}, XOk R N c X → WldX R T c C X → Takes X W → SA R W rs X es (evD C rs as st)
  | [], c, st, [], _, _, _, _, _, _, _, _, _ => sd_nil
  | [], c, st, _ :: _, h, _, _, _, _, _, _, _, _ => by unfold chkDL at h; cases h
  | _ :: _, c, st, [], h, _, _, _, _, _, _, _, _ => by unfold chkDL at h; cases h
  | a :: as, c, st, e :: es, h, R, W, rs, X, C, ok, wd, tk => by
    unfold chkDL at h
    rw [Bool.and_eq_true] at h
    obtain ⟨h1, h2⟩ := h
    split at h1
    · rw [Bool.and_eq_true] at h1
      exact sd_star ok (chkE_ok a h1.2 ok wd tk).se (chkDL_ok as h2 ok wd tk) h1.1
    · simp only [Bool.and_eq_true, Bool.not_eq_true'] at h1
      exact sd_cons (chkE_ok a h1.2.2 ok wd tk).se (chkDL_ok as h2 ok wd tk) h1.2.1 h1.1
theorem chkK_ok {T : Sta} {N : List Str} : ∀ (as : List CE) {c : Scp} {ks : List Keyword}, chkK T N c as ks = true → ∀ {R : RP} {W : WX} {rs : List Nat} {X : Cx} {C : Cxt}, XOk R N c X → WldX R T c C X → Takes X W → SK R W rs X ks (evL C rs as)
  | [], c, [], _, _, _, _, _, _, _, _, _ => sk_nil
  | [], c, _ :: _, h, _, _, _, _, _, _, _, _ => by unfold chkK at h; cases h
  | _ :: _, c, [], h, _, _, _, _, _, _, _, _ => by unfold chkK at h; cases h
  | a :: as, c, ⟨nm, v, kp⟩ :: ks, h, R, W, rs, X, C, ok, wd, tk => by
    unfold chkK at h
    rw [Bool.and_eq_true] at h
    exact sk_cons (chkE_ok a h.1 ok wd tk).se (chkK_ok as h.2 ok wd tk)
theorem chkO_ok {T : Sta} {N : List Str} : ∀ (as : List CE) {c : Scp} {e : Option Expr}, chkO T N c as e = true → ∀ {R : RP} {W : WX} {rs : List Nat} {X : Cx} {C : Cxt}, XOk R N c X → WldX R T c C X → Takes X W → SO R W rs X e (evO C rs as)
  | [], c, none, _, _, _, _, _, _, _, _, _ => so_none
  | [], c, some _, h, _, _, _, _, _, _, _, _ => by unfold chkO at h; cases h
  | a :: as, c, none, h, _, _, _, _, _, _, _, _ => by unfold chkO at h; cases as <;> cases h
  | a :: as, c, some e, h, R, W, rs, X, C, ok, wd, tk => by
    cases as with
    | nil =>
      unfold chkO at h
      exact so_some (chkE_ok a h ok wd tk).se
    | cons _ _ => unfold chkO at h; cases h
theorem chkG_ok {T : Sta} {N : List Str} : ∀ (gs : List Gen) {c c' : Scp} {tg iter : Expr} {xs : List Expr}, chkG T N c c' gs tg iter xs = true → ∃ t it ifs, gs = [.mk t it ifs] ∧ chkTg N c' t tg = true ∧
    (∀ {R : RP} {W : WX} {rs : List Nat} {X : Cx} {C : Cxt}, XOk R N c X → WldX R T c C X → Takes X W → SI R W rs X tg iter (evI C rs it)) ∧ xs.length ≤ 1 ∧
    (∀ {R : RP} {W : WX} {rs : List Nat} {X : Cx} {C : Cxt}, XOk R N c' X → WldX R T c' C X → Takes X W → Ok2s R W rs X C ifs xs)
  | [], c, c', tg, iter, xs, h => by unfold chkG at h; cases h
  | .mk t it ifs :: gs, c, c', tg, iter, xs, h => by
    cases gs with
    | nil =>
      unfold chkG at h
      simp only [Bool.and_eq_true, decide_eq_true_eq] at h
      obtain ⟨⟨⟨h1, h2⟩, h3⟩, h4⟩ := h
      exact ⟨t, it, ifs, rfl, h1, chkI_ok it h2, h3, fun ok wd tk => chkL_ok ifs h4 ok wd tk⟩
    | cons _ _ => unfold chkG at h; cases h
theorem chkG2_ok {T : Sta} {N : List Str} : ∀ (gs : List Gen) {c c' : Scp} {tg iter tg1 iter1 : Expr} {xs xs1 : List Expr}, chkG2 T N c c' gs tg iter xs tg1 iter1 xs1 = true → ∃ t it ifs t1 it1 ifs1, gs = [.mk t it ifs, .mk t1 it1 ifs1] ∧ chkTg N c' t tg = true ∧
    (∀ {R : RP} {W : WX} {rs : List Nat} {X : Cx} {C : Cxt}, XOk R N c X → WldX R T c C X → Takes X W → SI R W rs X tg iter (evI C rs it)) ∧ xs.length ≤ 1 ∧
    (∀ {R : RP} {W : WX} {rs : List Nat} {X : Cx} {C : Cxt}, XOk R N c' X → WldX R T c' C X → Takes X W → Ok2s R W rs X C ifs xs) ∧ chkTg N c' t1 tg1 = true ∧
    (∀ {R : RP} {W : WX} {rs : List Nat} {X : Cx} {C : Cxt}, XOk R N c' X → WldX R T c' C X → Takes X W → SI R W rs X tg1 iter1 (evI C rs it1)) ∧ xs1.length ≤ 1 ∧
    (∀ {R : RP} {W : WX} {rs : List Nat} {X : Cx} {C : Cxt}, XOk R N c' X → WldX R T c' C X → Takes X W → Ok2s R W rs X C ifs1 xs1)
  | [], c, c', tg, iter, tg1, iter1, xs, xs1, h => by unfold chkG2 at h; cases h
  | [.mk _ _ _], c, c', tg, iter, tg1, iter1, xs, xs1, h => by unfold chkG2 at h; cases h
  | .mk t it ifs :: .mk t1 it1 ifs1 :: g :: gs, c, c', tg, iter, tg1, iter1, xs, xs1, h => by unfold chkG2 at h; cases h
  | [.mk t it ifs, .mk t1 it1 ifs1], c, c', tg, iter, tg1, iter1, xs, xs1, h => by
    unfold chkG2 at h
    simp only [Bool.and_eq_true, decide_eq_true_eq] at h
    obtain ⟨⟨⟨⟨⟨⟨⟨h1, h2⟩, h3⟩, h4⟩, h5⟩, h6⟩, h7⟩, h8⟩ := h
    exact ⟨t, it, ifs, t1, it1, ifs1, rfl, h1, chkI_ok it h2, h3, fun ok wd tk => chkL_ok ifs h4 ok wd tk, h5, chkI_ok it1 h6, h7, fun ok wd tk => chkL_ok ifs1 h8 ok wd tk⟩
theorem chkI_ok {T : Sta} {N : List Str} : ∀ (it : IT) {c : Scp} {e tg : Expr}, chkI T N c it e tg = true → ∀ {R : RP} {W : WX} {rs : List Nat} {X : Cx} {C : Cxt}, XOk R N c X → WldX R T c C X → Takes X W → SI R W rs X tg e (evI C rs it)
  | .ov a, c, e, tg, h, R, W, rs, X, C, ok, wd, tk => by
    unfold chkI at h
    exact si_ov ok (chkE_ok a h ok wd tk).se
  | .rng1 b, c, e, tg, h, R, W, rs, X, C, ok, wd, tk => by
    unfold chkI at h
    split at h
    · simp only [Bool.and_eq_true] at h
      obtain ⟨⟨h1, h2⟩, h3⟩ := h
      obtain ⟨k1, k2, k3⟩ := chkBl_iff h1
      exact si_rng1 ok wd (chkE_ok b h3 ok wd tk).se k1 k2 k3 h2
    · cases h
  | .rng a b, c, e, tg, h, R, W, rs, X, C, ok, wd, tk => by
    unfold chkI at h
    split at h
    · simp only [Bool.and_eq_true] at h
      obtain ⟨⟨⟨⟨h1, h2⟩, h3⟩, h4⟩, h5⟩ := h
      obtain ⟨k1, k2, k3⟩ := chkBl_iff h1
      exact si_rng ok wd (chkE_ok a h4 ok wd tk).se (chkE_ok b h5 ok wd tk).se k1 k2 k3 h2 h3
    · cases h
  | .zip a b, c, e, tg, h, R, W, rs, X, C, ok, wd, tk => by
    unfold chkI at h
    split at h
    · simp only [Bool.and_eq_true, Bool.not_eq_true'] at h
      obtain ⟨⟨⟨⟨⟨h0, h1⟩, h2⟩, h3⟩, h4⟩, h5⟩ := h
      obtain ⟨k1, k2, k3⟩ := chkBl_iff h1
      cases tg with
      | Tuple _ _ _ => exact si_zip ok wd (chkE_ok a h4 ok wd tk).se (chkE_ok b h5 ok wd tk).se k1 k2 k3 h2 h3
      | _ => cases h0
    · cases h
  | .enm a, c, e, tg, h, R, W, rs, X, C, ok, wd, tk => by
    unfold chkI at h
    split at h
    · simp only [Bool.and_eq_true, Bool.not_eq_true'] at h
      obtain ⟨⟨⟨h0, h1⟩, h2⟩, h3⟩ := h
      obtain ⟨k1, k2, k3⟩ := chkBl_iff h1
      cases tg with
      | Tuple _ _ _ => exact si_enm ok wd (chkE_ok a h3 ok wd tk).se k1 k2 k3 h2
      | _ => cases h0
    · cases h
end
end OM
set_option Elab.async false
set_option linter.all false
set_option maxRecDepth 100000
set_option maxHeartbeats 1000000
/-! OmChkS: the check of statements. -/
namespace OM
open PySem PySem.Spec PyProof.Rows L2

/-- the name of a comprehension is stored while its block stands -/
def swapC (c : Scp) (x : Str) (p : Pos) : Expr → Bool
  | .ListComp _ _ scope pos => isNm c.sc .local x && (p.line == pos.line) && !(scope.names.any fun (n, k) => n == x && (k == .local || k == .cell))
  | _ => false
def dirC (c : Scp) (x : Str) (e : Expr) : Bool := notComp e || isNm c.sc .cell x
def isAS : BinO → Bool
  | .add => true
  | .sub => true
  | _ => false
mutual
def chkS (T : Sta) (N : List Str) (c : Scp) : CS → Stmt → Bool
  | .exp a, s => (match s with
    | .Expr e _ => notComp e && chkE T N c a e
    | _ => false)
  | .ret a, s => (match s with
    | .Return (some e) _ => chkE T N c a e
    | _ => false)
  | .retN, s => (match s with
    | .Return none _ => true
    | _ => false)
  | .set i a, s => (match s with
    | .Assign [.Name x p] e _ => chkSt N c i x && chkE T N c a e && (dirC c x e || swapC c x p e)
    | _ => false)
  | .unp is a, s => (match s with
    | .Assign [.Tuple es _ _] e _ => !c.hot && chkNs N c is es && (notTup e || hasCell c es) && chkE T N c a e
    | _ => false)
  | .par is as, s => (match s with
    | .Assign [.Tuple [.Name x px, .Name y py] _ _] (.Tuple [a, b] _ _) _ => (match is with
      | [i, j] => !c.hot && isNm c.sc .local x && isNm c.sc .local y && decide (N[i]? = some x) && decide (N[j]? = some y) && decide (i ≠ j) && swPar x y px py a b && chkL T N c as [a, b]
      | _ => false)
    | _ => false)
  | .sub o i a, s => (match s with
    | .Assign [.Subscript eo ei _] e _ => noSlice ei && chkE T N c o eo && chkE T N c i ei && chkE T N c a e
    | _ => false)
  | .fld o f a, s => (match s with
    | .Assign [.Attribute eo n _] e _ => decide (n = nmAt T.an f) && chkE T N c o eo && chkE T N c a e
    | _ => false)
  | .aug i o a, s => (match s with
    | .AugAssign (.Name x _) op e _ => isAS o && decide (op = augOf o) && chkSt N c i x && chkE T N c a e
    | _ => false)
  | .cond cc a b, s => (match s with
    | .If e ea eb _ => chkE T N c cc e && chkSs T N c a ea && chkSs T N c b eb
    | _ => false)
  | .loop t it b, s => (match s with
    | .For tg iter eb [] _ => !c.hot && chkTg N c t tg && noSet iter && chkI T N c it iter tg && chkSs T N c b eb
    | _ => false)
  | .whl cc b, s => (match s with
    | .While e eb [] _ => chkE T N c cc e && chkSs T N c b eb
    | _ => false)
  | .pas, s => (match s with
    | .Pass _ => true
    | .Expr (.Constant (.str _) _ _) _ => true
    | _ => false)
  | .brk, s => (match s with
    | .Break _ => true
    | _ => false)
  | .cnt, s => (match s with
    | .Continue _ => true
    | _ => false)
  | .raise k as, s => (match s with
    | .Raise (some (.Call (.Name x _) xs [] _)) none _ => !c.hot && decide (T.cn k = some x) && chkGl c.sc x && xs.all noStar && decide (as.length = xs.length) && chkL T N c as xs
    | _ => false)
  | .nev, _ => true
def chkSs (T : Sta) (N : List Str) (c : Scp) : List CS → List Stmt → Bool
  | [], [] => true
  | a :: as, e :: es => chkS T N c a e && chkSs T N c as es
  | _, _ => false
end
structure XS (R : RP) (N : List Str) (c : Scp) (X : Cx) extends XOk R N c X where
  ps : PassesOwn (model X.prog X.w) X.A X.env X.xe
  kind : c.sc.kind = .function
theorem sw_cell {e : Expr} {x : Str} {p : Pos} {l : Nat} {env : Env} (hk : env.scope.names.lookup x = some .cell) : swapsWith e (some (.Name x p)) l env = pure false := by
  have ky : env.kindOf x = some .cell := hk
  cases e <;> first
    | rfl
    | (unfold swapsWith; simp only [ky, show (some NameKind.cell == some NameKind.local) = false from rfl, Bool.and_false, Bool.false_and])
mutual
theorem chkS_ok {T : Sta} {N : List Str} : ∀ (a : CS) {c : Scp} {s : Stmt}, chkS T N c a s = true → ∀ {R : RP} {W : WX} {rs : List Nat} {X : Cx} {C : Cxt}, XS R N c X → WldX R T c C X → Takes X W → SS R W rs X s (evS C rs a)
  | .exp a, c, s, h, R, W, rs, X, C, ok, wd, tk => by
    unfold chkS at h
    split at h
    · rw [Bool.and_eq_true] at h
      exact ss_exp (chkE_ok a h.2 ok.toXOk wd tk).se h.1
    · cases h
  | .ret a, c, s, h, R, W, rs, X, C, ok, wd, tk => by
    unfold chkS at h
    split at h
    · exact ss_ret (chkE_ok a h ok.toXOk wd tk).se
    · cases h
  | .retN, c, s, h, R, W, rs, X, C, ok, wd, tk => by
    unfold chkS at h
    split at h
    · exact ss_retN
    · cases h
  | .set i a, c, s, h, R, W, rs, X, C, ok, wd, tk => by
    unfold chkS at h
    split at h
    · rename_i x p e pos
      simp only [Bool.and_eq_true, Bool.or_eq_true] at h
      obtain ⟨⟨h1, h2⟩, h3⟩ := h
      rcases h3 with h3 | h3
      · refine ss_set ok.toXOk (chkE_ok a h2 ok.toXOk wd tk).se h1 ?_
        unfold dirC at h3
        rw [Bool.or_eq_true] at h3
        rcases h3 with h3 | h3
        · exact sw_no h3
        · exact sw_cell (by rw [ok.sc]; exact isNm_iff h3)
      · unfold swapC at h3
        split at h3
        · rename_i elt gens scope cpos
          cases a with
          | comp mu e gs =>
            unfold chkE at h2
            split at h2
            · rename_i elt tg iter ifs scope pos e0
              cases e0
              simp only [Bool.and_eq_true, Bool.not_eq_true'] at h2
              obtain ⟨⟨⟨⟨k0, k1⟩, k2⟩, k3⟩, k4⟩ := h2
              have bo := blkOk_by k1
              obtain ⟨t, it, ifc, rfl, hg, hi, hl, hif⟩ := chkG_ok (T := T) (N := N) gs k3
              simp only [ownOf, List.append_nil] at bo
              simp only [Bool.and_eq_true, Bool.not_eq_true'] at h3
              obtain ⟨⟨m1, m2⟩, m3⟩ := h3
              unfold chkSt at h1
              simp only [Bool.and_eq_true, decide_eq_true_eq] at h1
              refine ss_setC (g := tgOf R t) ok.toXOk k0 (hi ok.toXOk wd tk) (by rw [ok.hN, ok.sc]; exact bo) (own_map _) (fun s H Ca cl fp => ?_) (tg_ok t) (fun s H Ca cl fp => ?_) (fun s H Ca cl fp => ?_) (folded_of k2) h1.1 m1 (by rw [ok.sc]; exact ok.kind) m2 m3
              · exact pg_of (ok.toXOk.blk k0 R.hid s H scope Ca cl fp) hg
              · exact pts_hid (fun hid => hif (ok.toXOk.blk k0 hid s H scope Ca cl fp) (wd.blk hid) takesF) hl
              · exact pe_hid fun hid => (chkE_ok e k4 (ok.toXOk.blk k0 hid s H scope Ca cl fp) (wd.blk hid) takesF).se
            · rename_i elt tg iter ifs tg1 iter1 ifs1 scope pos e0
              cases e0
              simp only [Bool.and_eq_true, Bool.not_eq_true'] at h2
              obtain ⟨⟨⟨⟨⟨k0, k1⟩, k2⟩, k2'⟩, k3⟩, k4⟩ := h2
              have bo := blkOk_by k1
              obtain ⟨t, it, ifc, t1, it1, ifc1, rfl, hg, hi, hl, hif, hg1, hi1, hl1, hif1⟩ := chkG2_ok (T := T) (N := N) gs k3
              simp only [ownOf, List.append_nil] at bo
              simp only [Bool.and_eq_true, Bool.not_eq_true'] at h3
              obtain ⟨⟨m1, m2⟩, m3⟩ := h3
              unfold chkSt at h1
              simp only [Bool.and_eq_true, decide_eq_true_eq] at h1
              refine ss_setC2 (g := tgOf R t) (g1 := tgOf R t1) ok.toXOk k0 (hi ok.toXOk wd tk) (by rw [ok.hN, ok.sc]; exact bo) (own_map _) (fun s H Ca cl fp => ?_) (tg_ok t) (fun s H Ca cl fp => ?_) (tg_ok t1) (fun s H Ca cl fp => ?_) (fun s H Ca cl fp => ?_) (fun s H Ca cl fp => ?_) (fun s H Ca cl fp => ?_) (folded_of k2) (fun env => folded_of k2') h1.1 m1 (by rw [ok.sc]; exact ok.kind) m2 m3
              · exact pg_of (ok.toXOk.blk k0 R.hid s H scope Ca cl fp) hg
              · exact pg_of (ok.toXOk.blk k0 R.hid s H scope Ca cl fp) hg1
              · exact pts_hid (fun hid => hif (ok.toXOk.blk k0 hid s H scope Ca cl fp) (wd.blk hid) takesF) hl
              · exact pi_hid fun hid => hi1 (ok.toXOk.blk k0 hid s H scope Ca cl fp) (wd.blk hid) takesF
              · exact pts_hid (fun hid => hif1 (ok.toXOk.blk k0 hid s H scope Ca cl fp) (wd.blk hid) takesF) hl1
              · exact pe_hid fun hid => (chkE_ok e k4 (ok.toXOk.blk k0 hid s H scope Ca cl fp) (wd.blk hid) takesF).se
            · cases h2
          | _ => simp [chkE, cstOk, chkTy] at h2
        · cases h3
    · cases h
  | .unp is a, c, s, h, R, W, rs, X, C, ok, wd, tk => by
    unfold chkS at h
    split at h
    · simp only [Bool.and_eq_true, Bool.not_eq_true'] at h
      obtain ⟨⟨⟨h0, h1⟩, h2⟩, h3⟩ := h
      exact ss_unp ok.toXOk h0 (chkE_ok a h3 ok.toXOk wd tk).se h1 (sw_hasCell ok.sc h2)
    · cases h
  | .par is as, c, s, h, R, W, rs, X, C, ok, wd, tk => by
    unfold chkS at h
    split at h
    · split at h
      · simp only [Bool.and_eq_true, Bool.not_eq_true', decide_eq_true_eq] at h
        obtain ⟨⟨⟨⟨⟨⟨⟨h0, h1⟩, h2⟩, h3⟩, h4⟩, h5⟩, h6⟩, h7⟩ := h
        have h6' := h6
        unfold swPar at h6'
        simp only [Bool.and_eq_true] at h6'
        exact ss_par ok.toXOk h0 (by rw [ok.sc]; exact ok.kind) h1 h2 h3 h4 h5 h6 ((chkL_ok as h7 ok.toXOk wd tk).sa (by rw [List.all_cons, List.all_cons, h6'.1.1.1.2, h6'.1.1.2]; rfl))
      · cases h
    · cases h
  | .sub o i a, c, s, h, R, W, rs, X, C, ok, wd, tk => by
    unfold chkS at h
    split at h
    · simp only [Bool.and_eq_true] at h
      obtain ⟨⟨⟨h1, h2⟩, h3⟩, h4⟩ := h
      exact ss_sub ok.toXOk (chkE_ok o h2 ok.toXOk wd tk).se (chkE_ok i h3 ok.toXOk wd tk).se (chkE_ok a h4 ok.toXOk wd tk).se h1
    · cases h
  | .fld o f a, c, s, h, R, W, rs, X, C, ok, wd, tk => by
    unfold chkS at h
    split at h
    · simp only [Bool.and_eq_true, decide_eq_true_eq] at h
      obtain ⟨⟨rfl, h2⟩, h3⟩ := h
      exact ss_fld ok.toXOk wd (chkE_ok o h2 ok.toXOk wd tk).se (chkE_ok a h3 ok.toXOk wd tk).se
    · cases h
  | .aug i o a, c, s, h, R, W, rs, X, C, ok, wd, tk => by
    unfold chkS at h
    split at h
    · simp only [Bool.and_eq_true, decide_eq_true_eq] at h
      obtain ⟨⟨⟨h1, rfl⟩, h3⟩, h4⟩ := h
      obtain ⟨_, k2, _⟩ := st_of ok.toXOk h3
      exact ss_aug ok.toXOk (chkE_ok a h4 ok.toXOk wd tk).se h3 (k2.elim .inl fun z => .inr (.inl z))
    · cases h
  | .cond cc a b, c, s, h, R, W, rs, X, C, ok, wd, tk => by
    unfold chkS at h
    split at h
    · simp only [Bool.and_eq_true] at h
      obtain ⟨⟨h1, h2⟩, h3⟩ := h
      exact ss_cond (chkE_ok cc h1 ok.toXOk wd tk).st (chkSs_ok a h2 ok wd tk) (chkSs_ok b h3 ok wd tk)
    · cases h
  | .loop t it b, c, s, h, R, W, rs, X, C, ok, wd, tk => by
    unfold chkS at h
    split at h
    · simp only [Bool.and_eq_true, Bool.not_eq_true'] at h
      obtain ⟨⟨⟨⟨h0, h1⟩, h2⟩, h3⟩, h4⟩ := h
      exact ss_loop ok.toXOk h0 ok.ps (chkI_ok it h3 ok.toXOk wd tk) h1 (chkSs_ok b h4 ok wd tk) (folded_of h2)
    · cases h
  | .whl cc b, c, s, h, R, W, rs, X, C, ok, wd, tk => by
    unfold chkS at h
    split at h
    · simp only [Bool.and_eq_true] at h
      exact ss_whl ok.ps (chkE_ok cc h.1 ok.toXOk wd tk).st (chkSs_ok b h.2 ok wd tk)
    · cases h
  | .pas, c, s, h, R, W, rs, X, C, ok, wd, tk => by
    unfold chkS at h
    split at h
    · exact ss_pas
    · exact ss_doc
    · cases h
  | .brk, c, s, h, R, W, rs, X, C, ok, wd, tk => by
    unfold chkS at h
    split at h
    · exact ss_brk
    · cases h
  | .cnt, c, s, h, R, W, rs, X, C, ok, wd, tk => by
    unfold chkS at h
    split at h
    · exact ss_cnt
    · cases h
  | .raise k as, c, s, h, R, W, rs, X, C, ok, wd, tk => by
    unfold chkS at h
    split at h
    · simp only [Bool.and_eq_true, Bool.not_eq_true', decide_eq_true_eq] at h
      obtain ⟨⟨⟨⟨⟨h0, h1⟩, h2⟩, h3⟩, h4⟩, h5⟩ := h
      exact ss_raise ok.toXOk h0 wd tk ((chkL_ok as h5 ok.toXOk wd tk).sa h3) h3 h4 h1 h2
    · cases h
  | .nev, c, s, h, R, W, rs, X, C, ok, wd, tk => ss_nev
theorem chkSs_ok {T : Sta} {N : List Str} : ∀ (as : List CS) {c : Scp} {es : List Stmt}, chkSs T N c as es = true → ∀ {R : RP} {W : WX} {rs : List Nat} {X : Cx} {C : Cxt}, XS R N c X → WldX R T c C X → Takes X W → SSs R W rs X es (evSs C rs as)
  | [], c, [], _, _, _, _, _, _, _, _, _ => sss_nil
  | [], c, _ :: _, h, _, _, _, _, _, _, _, _ => by unfold chkSs at h; cases h
  | _ :: _, c, [], h, _, _, _, _, _, _, _, _ => by unfold chkSs at h; cases h
  | a :: as, c, e :: es, h, R, W, rs, X, C, ok, wd, tk => by
    unfold chkSs at h
    rw [Bool.and_eq_true] at h
    exact sss_cons (chkS_ok a h.1 ok wd tk) (chkSs_ok as h.2 ok wd tk)
end

/-! ### defs -/
/-- a def's text reads as F -/
def chkD (T : Sta) (N : List Str) (F : FD) (hot lam : Bool) (body : List Stmt) (scope : Scope) : Bool :=
  (match scope.kind with | .function => true | _ => false) && decide (scope.isCoroutine = false) && decide (scope.isGenerator = false) && decide N.Nodup && decide (N.take F.ps.length = F.ps.map (nmAt T.an)) && decide (F.ns = N.length) &&
    ((F.ps.map (nmAt T.an)).all fun x => isNm scope .local x || isNm scope .cell x) && (scope.names.all fun y => !decide (y.2 = .free)) && chkSs T N ⟨scope, fun _ => true, hot, lam⟩ F.body body
theorem chkD_scope {T : Sta} {N : List Str} {F : FD} {hot lam : Bool} {body : List Stmt} {scope : Scope} (h : chkD T N F hot lam body scope = true) : FnScope N (F.ps.map (nmAt T.an)) scope ∧ F.ns = N.length ∧ scope.kind = .function ∧ chkSs T N ⟨scope, fun _ => true, hot, lam⟩ F.body body = true := by
  unfold chkD at h
  simp only [Bool.and_eq_true, decide_eq_true_eq, List.all_eq_true, Bool.or_eq_true, Bool.not_eq_true', decide_eq_false_iff_not] at h
  obtain ⟨⟨⟨⟨⟨⟨⟨⟨h1, h2⟩, h3⟩, h4⟩, h5⟩, h6⟩, h7⟩, h8⟩, h9⟩ := h
  have hk : scope.kind = .function := by
    split at h1
    · assumption
    · cases h1
  refine ⟨⟨hk, h2, h3, h4, by rw [List.length_map]; exact h5, fun x hx => ?_, h8⟩, h6, hk, h9⟩
  rcases h7 x hx with q | q
  · exact .inl (isNm_iff q)
  · exact .inr (isNm_iff q)
theorem rf_start {R : RP} {r : List Addr} {H : Hp} : ∀ {ds : List D} {vs : List V} (n : Nat), Reps R r H ds vs → RF R r H (ds.map some ++ List.replicate n none) (vs.map some ++ List.replicate n none)
  | _, _, n, .nil => ⟨by simp, fun i d e => by
    simp only [List.map_nil, List.nil_append] at e
    rw [List.getElem?_replicate] at e
    split at e <;> cases e⟩
  | d :: ds, v :: vs, n, .cons q t => by
    have ih := rf_start n t
    refine ⟨by simp only [List.map_cons, List.cons_append, List.length_cons]; rw [ih.len], fun i e he => ?_⟩
    cases i with
    | zero => simp at he; subst he; exact ⟨v, by simp, q⟩
    | succ i =>
      simp only [List.map_cons, List.cons_append, List.getElem?_cons_succ] at he ⊢
      exact ih.at_ i e he
theorem out_sat {R : RP} {E : XK} {rs : List Nat} {r : List Addr} {H : Hp} {o : OS} {Q : VK} (hs : Sat R (fun c d _ H => E c d H) rs [] r H (Rep R) o.out Q) : SatS R (fun c d _ H => E c d H) rs r H o { nx := fun _ H' => Q .non H', rt := Q } := by
  cases o with
  | nx F S => exact fun r' H' st e h hF => hs r' H' .non e h .non
  | ret d S => exact hs
  | brk F S => exact hs.elim
  | cnt F S => exact hs.elim
  | exc x F S => exact fun r' H' st c d e h hF q => hs r' H' c d e h q
  | bad => exact hs
theorem isSome_len {F : FD} {n : Nat} : n = F.ps.length → True := fun _ => trivial
/-- a def, from its callees -/
theorem def_ok {R : RP} {T : Sta} {C : Cxt} {P : Program} {w : World} {K : PySem.W.Frag} {mg : Str → Option Value} {base : Heap} {k : Nat} {N : List Str} {F : FD} {lam : Bool} {x qual : Str} {params : Arguments} {body : List Stmt} {scope : Scope} {dvs : List V} {kws : List (Str × V)} {fa : Addr} {fd : FuncData} (hK : K = R.K) (hp : R.pin = [])
    (FD' : FunD K x qual params body scope dvs kws fa fd) (hc : chkD T N F false lam body scope = true) (hw : Wld R T C P w K mg base) (hk : C.lvl + 3 ≤ k)
    (hl : lam = true → ∃ cd Pt, fd.code = .ref cd ∧ LamX.TabB base mg cd Pt ∧ (Pt, (qual ++ ".<locals>.") ++ "<lambda>") ∈ R.tabs ∧ ∀ p ∈ R.tabs, p.1 = Pt → p.2 = (qual ++ ".<locals>.") ++ "<lambda>") : FnOk P w K mg base (L2.CX P w) (k + 1) fa fd (F.ps.map (nmAt T.an)) (spOf R F.ps.length (fun vs rs S => FD.run C F vs rs S)) := by
  obtain ⟨S, hns, hkd, hb⟩ := chkD_scope hc
  obtain ⟨oc, od, dV, kV, doc, pm, an, cdv, ct, osl, rfl, lk, hcd, _, _⟩ := FD'.ex
  refine fn_of lk hcd S (fun vs H Q E sp => ?_) fun A outer s H vs Q E hr sp => ?_
  · obtain ⟨hid, r, S0, ds, rs, hl, h, q, hs⟩ := sp
    rw [List.length_map, ← q.length]
    exact hl
  · obtain ⟨hid, r, S0, ds, rs, hl', h, q, hs⟩ := sp
    have dp := hr.dp
    have xs : XS (R.h hid) N ⟨scope, fun _ => true, false, lam⟩ (cxOf (L2.CX P w) P w K mg base N qual scope fa cdv A outer s H E) :=
      { hN := rfl, nd := S.nd, sc := rfl, fn := rfl, K := hK, calm := fun _ => rfl, pin := fun p m => (by rw [show (R.h hid).pin = [] from hp] at m; cases m), pin0 := fun _ => hp, un := hr.units, dp := (by show (A.deeper _).depth + 1 < recursionLimit; omega), ps := passes_of rfl, kind := hkd }
    have wd : WldX (R.h hid) T ⟨scope, fun _ => true, false, lam⟩ C (cxOf (L2.CX P w) P w K mg base N qual scope fa cdv A outer s H E) :=
      { toWld := hw.hid hid, room := fun _ _ _ => hr.mono (by omega), lamr := fun z => ⟨hr.mono hk, hl z⟩ }
    refine ⟨_, chkSs_ok F.body hb (W := fun c d _ H => E c d H) (rs := rs) (C := C) xs wd (takes_of rfl rfl rfl rfl), r, _, S0, h, ?_, out_sat hs⟩
    unfold L2.start
    rw [hns, q.length]
    exact rf_start _ q
end OM
set_option Elab.async false
set_option linter.all false
set_option maxRecDepth 100000
set_option maxHeartbeats 2000000
/-! OmWhy3: the def that tells of an exception, run while it is handled; the def that tells why. -/
namespace OM
open PySem PySem.Spec PyProof.Rows L2

/-! ### an exception's values as things that are only handed on -/
def atomD (i : Nat) : D → D
  | .non => .non
  | .bl b => .bl b
  | .int n => .int n
  | .str x => .str x
  | .ty k => .ty k
  | _ => .fn i
def atomL (i : Nat) : List D → List D
  | [] => []
  | d :: ds => atomD i d :: atomL (i + 1) ds
def isFn : D → Bool
  | .fn _ => true
  | _ => false
def unatom (ds : List D) : D → Option D
  | .fn i => match ds[i]? with
    | some d => if isFn (atomD i d) then some d else none
    | none => none
  | .non => some .non
  | .bl b => some (.bl b)
  | .int n => some (.int n)
  | .str x => some (.str x)
  | .ty k => some (.ty k)
  | _ => none
/-- nothing but fields of exceptions -/
def hotC (xok : Nat → Nat → Bool) : Cxt := ⟨fun _ _ _ _ => .bad, fun _ => none, fun _ => none, ⟨fun _ _ => none, fun _ _ => none, fun _ _ => none, fun _ => none, fun _ _ => false, fun _ _ => none, fun _ => none, xok⟩, fun _ _ _ => .bad, 0⟩
def hotT (an : List Str) : Sta := ⟨[], an, fun _ => none, fun _ => none, fun _ => none, fun _ => [], fun _ => [], fun _ => none, fun _ _ => none, [], none⟩
/-- the tag and the field of a caught exception -/
def whyD (xok : Nat → Nat → Bool) (ct : Nat → Bool) (tag : Nat) (F : FD) : D → List Nat → Sto → Out D := fun x _ S => match x with
  | .exc k ns ds => if ct k && xok k tag then (match lookN tag ns (atomL 0 ds) with
    | some (.str t) => (match F.run (hotC xok) [.exc k ns (atomL 0 ds)] [] [] with
      | .ok d' [] => (match unatom ds d' with
        | some d => .ok (.tup [.str t, d]) S
        | none => .bad)
      | _ => .bad)
    | _ => .bad) else .bad
  | _ => .bad
def adAt (fs : List (Str × V)) (i : Nat) : Addr := match fs[i]? with
  | some (_, .ref b) => b
  | _ => 0
def hotR (R : RP) (a : Addr) (k : Nat) (dx : Addr) (fs : List (Str × V)) : RP := ⟨R.K, adAt fs, R.cadr, R.an, [], [(a, k, dx)], R.tabs⟩

section
variable {R R' : RP} {r : List Addr} {H : Hp}
theorem atom1 {i : Nat} {d : D} {v : V} (q : Rep R r H d v) (h : ∀ b, v = .ref b → R'.fadr i = b) : Rep R' [] H (atomD i d) v := by
  have go : ∀ b, v = .ref b → Rep R' [] H (.fn i) v := fun b e => by
    rw [e, ← h b e]
    exact .fn i
  cases q with
  | non => exact .non
  | bl b => exact .bl b
  | int n => exact .int n
  | str x => exact .str x
  | ty k => exact .ty k
  | _ => exact go _ rfl
theorem atoms : ∀ {ds : List D} {vs : List V} {i : Nat}, Reps R r H ds vs → (∀ j b, vs[j]? = some (.ref b) → R'.fadr (i + j) = b) → Reps R' [] H (atomL i ds) vs
  | _, _, _, .nil, _ => .nil
  | _, _, i, .cons q t, h => .cons (atom1 q fun b e => h 0 b (by rw [e]; rfl)) (atoms t fun j b e => by rw [Nat.add_assoc, Nat.add_comm 1 j]; exact h (j + 1) b (by simpa using e))
theorem unatom_rep {H' : Hp} {ds : List D} {vs : List V} {d d' : D} {v : V} (g : Reps R r H ds vs) (x : Ext r H r H') (q : Rep R' [] H' d' v) (e : unatom ds d' = some d) (h : ∀ j b, vs[j]? = some (.ref b) → R'.fadr j = b) : Rep R r H' d v := by
  cases q with
  | non => cases e; exact .non
  | bl b => cases e; exact .bl b
  | int n => cases e; exact .int n
  | str x => cases e; exact .str x
  | ty k => cases e; exact .ty k
  | fn i =>
    simp only [unatom] at e
    cases e1 : ds[i]? with
    | none => rw [e1] at e; cases e
    | some d0 =>
      rw [e1] at e
      dsimp only at e
      split at e
      · rename_i hf
        cases e
        obtain ⟨u, e2, q2⟩ := g.get e1
        have : ∃ b, u = .ref b := by cases q2 <;> first | exact ⟨_, rfl⟩ | cases hf
        obtain ⟨b, rfl⟩ := this
        rw [h i b e2]
        exact q2.ext x
      · cases e
  | _ => cases e
theorem adAt_ok {fs : List (Str × V)} : ∀ j b, (fs.map (·.2))[j]? = some (.ref b) → adAt fs j = b := fun j b e => by
  rw [List.getElem?_map] at e
  unfold adAt
  cases e2 : fs[j]? with
  | none => rw [e2] at e; cases e
  | some x =>
    rw [e2] at e
    obtain ⟨y, v⟩ := x
    simp only [Option.map_some, Option.some.injEq] at e
    subst e
    rfl
theorem lookN_atom {tag : Nat} {t : List Nat} : ∀ {ns : List Nat} {ds : List D} {i : Nat}, lookN tag ns (atomL i ds) = some (.str t) → lookN tag ns ds = some (.str t)
  | [], _, _, e => by simp [lookN] at e
  | _ :: _, [], _, e => by simp [lookN, atomL] at e
  | n :: ns, d :: ds, i, e => by
    unfold atomL lookN at e
    unfold lookN
    split at e
    · rename_i hn
      rw [if_pos hn]
      cases d <;> simp [atomD] at e
      subst e
      rfl
    · rename_i hn
      rw [if_neg hn]
      exact lookN_atom e
end

/-! ### a def called while an exception is handled -/
theorem hot_code {CX : CXT} {P : Program} {w : World} {K : PySem.W.Frag} {mg : Str → Option Value} {base : Heap} {k : Nat} {f : Addr} {name qual : Str} {params : Arguments} {body : List Stmt} {scope : Scope} {dV kV doc pm cdv ct oc : Value} {an od : Option Addr} {osl : Array (Option Value)} {N ps : List Str}
    {p : Addr × Obj} {A : Around} {outer : List Env} {s : Shared} {H : Hp} {args : Args} {us : List Value} {vs : List V} {Q : VK} {E : XK}
    (lk : K.lookup f = some ⟨oc, od, .func (PySem.W.fnOf name qual params body scope dV kV doc pm an cdv ct), osl⟩) (hcd : PySem.W.codeIn K cdv qual = true) (S : FnScope N ps scope) (hl : vs.length = ps.length) (room : L2H.RoomH (k + 1) A) (hpin : L2H.PinOk outer H s p) (e0 : Env0 P w K mg base A outer s H) (hb : BindsTo s (PySem.W.fnOf name qual params body scope dV kV doc pm an cdv ct) args (ps.zip us)) (rv : Vals vs us)
    (go : L2H.RoomH k (A.deeper (envOfC qual scope s.heap.objs.size f cdv)) → ∃ t, PSs (L2H.cxH CX P w K mg base N qual scope f cdv A outer s H E p) body t ∧ t { nx := fun _ H' => Q .non H', rt := Q } (L2.start N vs) H) :
    codeAny (model P w) A (.call (.ref f) args) (CR CX outer P w H s Q E) s := by
  have up : ∀ b o, base.get? b = some o → s.heap.get? b = some o := fun b o e => (e0.bs b o e).1
  have kin : K.In s.heap := e0.mod.kin.keeps up
  refine codeAny_call_function room.depth (kin _ _ lk) rfl S.co S.gen rfl (PySem.W.codeRec_of kin hcd) (hb _ _ _ _ ?_)
  refine wpAny_newFunctionEnv_cells S.kind (fun y hy => ?_) fun env he s1 x => ?_
  · obtain ⟨n, v⟩ := y
    exact (S.par n (List.of_mem_zip hy).1).elim .inl fun q => .inr ⟨q, PySem.W.cellsFrom_some _ _ _ (.inl q)⟩
  · subst he
    refine ⟨(e0.mod.nolimit.keeps up).keeps x.toInCall.keep, codeAny_func ?_⟩
    obtain ⟨t, ht, hq⟩ := go (room.deeper _)
    refine wpAny_mono (ht.run [] s1 (L2.start N vs) H _ (L2H.inv_startH S hpin e0 hl rv x) hq) (fun fl s' hs => ?_) fun _ _ z => z
    cases fl with
    | brk => obtain ⟨_, _, _, z⟩ := hs; exact z.elim
    | cont => obtain ⟨_, _, _, z⟩ := hs; exact z.elim
    | next =>
      obtain ⟨σ', H', J, q⟩ := hs
      exact ⟨.non, H', J.os, J.bare, J.base, J.hok, rfl, q⟩
    | ret u =>
      obtain ⟨v, σ', H', J, r, q⟩ := hs
      exact ⟨v, H', J.os, J.bare, J.base, J.hok, r, q⟩
/-- the tellers: the def that tells an exception's field -/
structure Teller (R : RP) (K : PySem.W.Frag) (an : List Str) (xok : Nat → Nat → Bool) (F : FD) (fa : Addr) : Prop where
  it : ∃ (x qual : Str) (params : Arguments) (body : List Stmt) (scope : Scope) (fd : FuncData) (N : List Str) (p0 : Nat), FunD K x qual params body scope [] [] fa fd ∧ chkD (hotT an) N F true false body scope = true ∧ F.ps = [p0] ∧ ∀ s u, BindsTo s fd ⟨[u], []⟩ [(nmAt an p0, u)]
  kp : PySem.W.keepIn K (.ref fa) = true
  ran : R.an = nmAt an
  ani : ∀ x y, R.an x = R.an y → x = y
  rk : R.K = K
  xok : ∀ c f, xok c f = true → XfC K (R.cadr c) ∧ PySem.W.findIn K (.ref (R.cadr c)) (R.an f) = some none
theorem hot_wld {R R' : RP} {P : Program} {w : World} {K : PySem.W.Frag} {mg : Str → Option Value} {base : Heap} {an : List Str} {xok : Nat → Nat → Bool} {F : FD} {fa : Addr} (tl : Teller R K an xok F fa) (e1 : R'.an = R.an) (e2 : R'.cadr = R.cadr) : Wld R' (hotT an) (hotC xok) P w K mg base where
  an := e1.trans tl.ran
  ani := by rw [e1]; exact tl.ani
  call0 := fun f F e => by cases e
  gf := fun f x e => by cases e
  cn := fun f x e => by cases e
  mth := fun _ _ _ e => by cases e
  mds := fun _ _ _ e => by cases e
  iniE := fun _ => rfl
  smt := fun _ _ _ e => by cases e
  smtE := fun _ _ => rfl
  prp := fun _ _ _ e => by cases e
  con := fun _ _ _ e => by cases e
  fok := fun _ _ e => by cases e
  ini := fun _ _ e => by cases e
  pars := fun _ => rfl
  glob := fun _ _ e => by cases e
  bl := fun _ m => by cases m
  exn := fun _ _ _ _ e => by cases e
  xok := fun c f e => by rw [e1, e2]; exact tl.xok c f e
  why := fun _ e => by cases e
section
variable {R : RP} {X : Cx} {an : List Str} {xok : Nat → Nat → Bool} {F : FD} {fa a dx : Addr} {oe : Obj} {k : Nat} {fs : List (Str × V)}
theorem rs_none {H : Hp} (h : LamX.Tabs R.tabs H) : RS (hotR R a k dx fs) [] [] [] H := ⟨rfl, List.nodup_nil, fun n c q => by simp at q, fun m hm => by simp at hm, fun a m => (by cases (show a ∈ [] from m)), h⟩
/-- the exception that is handled, as it is told there -/
theorem pin_rep {r : List Addr} {H : Hp} {ns : List Nat} {ds : List D} (hx : H dx = some (.xd fs)) (m : fs.map (·.1) = ns.map R.an) (g : Reps R r H ds (fs.map (·.2))) : Rep (hotR R a k dx fs) [] H (.exc k ns (atomL 0 ds)) (.ref a) :=
  .pin (by unfold hotR; exact List.mem_cons_self) hx ⟨by simp, by unfold hotR; simp⟩ m (atoms g fun j b e => by rw [Nat.zero_add]; exact adAt_ok j b e)
/-- from such a run back to what stood -/
theorem hot_back {rs : List Nat} {r : List Addr} {S : Sto} {H H' : Hp} {r' : List Addr} (h : RS R rs r S H) (x : Ext [] H r' H') (h' : RS (hotR R a k dx fs) [] r' [] H') : r' = [] ∧ LamX.ExtN H H' ∧ RS R rs r S H' := by
  have e : r' = [] := List.length_eq_zero_iff.mp h'.len
  subst e
  have eN : LamX.ExtN H H' := fun b o e n => x.keep b o e (by simp) (by
    cases t : notT o with
    | true => rfl
    | false => obtain ⟨ps, z⟩ := isT t; exact absurd z (n ps))
  exact ⟨rfl, eN, rs_ext h eN h'.tabs⟩
/-- f(e), while e is handled -/
theorem pe_hot {i : Nat} {y e : Str} {q q2 pos : Pos} (tl : Teller R X.K an xok F fa) (hp : (a, oe) ∈ X.pn) (hz : Zc (.ref (R.cadr k)) (some dx) oe) (hf : ∃ vs, oe.data = .fields vs) {lv : Nat} (room : L2H.RoomH (lv + 1) X.A) (hg : Gl X y) (hm : X.mg y = some (.ref fa)) (hdb : (y == ("__debug__" : Str)) = false) (he1 : X.N[i]? = some e) (he2 : Vis X.env.scope e) (he3 : (e == ("__debug__" : Str)) = false) (he4 : (e == ("__classdict__" : Str)) = false) :
    PE X (.Call (.Name y q) [.Name e q2] [] pos) (fun σ H Q => σ[i]? = some (some (.ref a)) ∧ ∃ rs r S ns ds d' d, RS R rs r S H ∧ H dx = some (.xd fs) ∧ fs.map (·.1) = ns.map R.an ∧ Reps R r H ds (fs.map (·.2)) ∧ F.run (hotC xok) [.exc k ns (atomL 0 ds)] [] [] = .ok d' [] ∧ unatom ds d' = some d ∧
      ∀ H' v, LamX.ExtN H H' → RS R rs r S H' → Rep R r H' d v → Q v H') := by
  refine ⟨fun pins s σ H Q I ⟨hs, rs, r, S, ns, ds, d', d, h, hx, m, g, hrun, hun, hq⟩ => ?_⟩
  obtain ⟨x, qual, params, body, scope, fd, N, p0, FD', hc, hps, hb⟩ := tl.it
  obtain ⟨Sf, hns, hkd, hbd⟩ := chkD_scope hc
  obtain ⟨oc, od, dV, kV, doc, pm, an', cdv, ct, osl, rfl, lk, hcd, _, _⟩ := FD'.ex
  refine wpAny_Call_Name_kw (ld_glob I hg hm ?_ hdb)
  refine PySem.W.callWith_K (h₀ := X.base) I.ok.mod.kin tl.kp (thn ((pa_cons (pe_var (pos := q2) he1 he2 he3 he4) pa_nil rfl).run pos pins s σ H (fun vs H1 => vs = [.ref a] ∧ H1 = H) I ⟨.ref a, hs, rfl, rfl⟩) fun us s1 ⟨vs, H1, I1, rv, e1, e2⟩ => ⟨I1.kIn, ?_⟩) rfl rfl
  subst e1
  subst e2
  have P1 := I1.pin (a, oe) (List.mem_append_left _ hp)
  have hpin : L2H.PinOk X.stack H1 s1 (a, oe) := ⟨P1.1, P1.2.1, fun hm => (List.mem_cons.mp (I1.stkSub a hm)).elim P1.2.2.1 P1.2.2.2.1, P1.2.2.2.2⟩
  have hlu : us.length = 1 := rv.length.symm
  obtain ⟨u, rfl⟩ : ∃ u, us = [u] := by
    cases us with
    | nil => cases hlu
    | cons u t => cases t with
      | nil => exact ⟨u, rfl⟩
      | cons _ _ => cases hlu
  have hzip : (F.ps.map (nmAt an)).zip [u] = [(nmAt an p0, u)] := by rw [hps]; rfl
  have run : codeAny (model X.prog X.w) X.A (.call (.ref fa) ⟨[u], []⟩) (CR (L2.CX X.prog X.w) X.stack X.prog X.w H1 s1 Q fun _ _ _ => False) s1 := by
    refine hot_code (k := lv) (us := [u]) (vs := [.ref a]) lk hcd (N := N) (ps := F.ps.map (nmAt an)) Sf (by rw [hps]; rfl) room hpin I1.env0 (by rw [hzip]; exact hb s1 u) rv fun hr => ?_
    have dp := hr.dp
    have un := hr.un
    have xs : XS (hotR R a k dx fs) N ⟨scope, fun _ => true, true, false⟩ (L2H.cxH (L2.CX X.prog X.w) X.prog X.w X.K X.mg X.base N qual scope fa cdv X.A X.stack s1 H1 (fun _ _ _ => False) (a, oe)) :=
      { hN := rfl, nd := Sf.nd, sc := rfl, fn := rfl, K := tl.rk.symm, calm := fun z => (by cases (show true = false from z)), pin := fun p m => (by
          have e : p = (a, k, dx) := by unfold hotR at m; simpa using m
          subst e
          exact ⟨oe, List.mem_cons_self, hz, hf⟩), pin0 := fun z => (by cases (show true = false from z)), un := (by show (X.A.deeper _).units + 64 < cLine; omega), dp := (by show (X.A.deeper _).depth + 1 < recursionLimit; omega), ps := passes_of rfl, kind := hkd }
    have wd : WldX (hotR R a k dx fs) (hotT an) ⟨scope, fun _ => true, true, false⟩ (hotC xok) (L2H.cxH (L2.CX X.prog X.w) X.prog X.w X.K X.mg X.base N qual scope fa cdv X.A X.stack s1 H1 (fun _ _ _ => False) (a, oe)) :=
      { toWld := hot_wld tl rfl rfl, room := fun f F e => (by cases e), lamr := fun z => (by cases (show false = true from z)) }
    refine ⟨_, chkSs_ok F.body hbd (W := fun c d _ H => False) (rs := []) (C := hotC xok) xs wd (takes_of rfl rfl rfl rfl), [], _, [], rs_none h.tabs, ?_, out_sat (E := fun _ _ _ => False) (R := hotR R a k dx fs) (o := evSs (hotC xok) [] F.body ([D.exc k ns (atomL 0 ds)].map some ++ List.replicate (F.ns - [D.exc k ns (atomL 0 ds)].length) none) []) ?_⟩
    · unfold L2.start
      rw [hns]
      exact rf_start (ds := [D.exc k ns (atomL 0 ds)]) _ (.cons (pin_rep hx m g) .nil)
    · show Sat _ _ _ _ _ _ _ (F.run (hotC xok) [.exc k ns (atomL 0 ds)] [] []) Q
      rw [hrun]
      intro r' H' v x' h' qv
      obtain ⟨e, eN, h2⟩ := hot_back h x' h'
      subst e
      exact hq H' v eN h2 (unatom_rep g (ext_of eN) qv hun adAt_ok)
  refine wpAny_call (codeAny_mono run fun r s' hq => ?_)
  cases r with
  | error e => exact (pass_none (X := X) pins σ H1 s1 e s' I1 hq)
  | ok fl =>
    cases fl with
    | ret u => exact I1.after hq
    | next => exact hq.elim
    | brk => exact hq.elim
    | cont => exact hq.elim
end
end OM
set_option Elab.async false
set_option linter.all false
set_option maxRecDepth 100000
set_option maxHeartbeats 2000000
/-! OmWhy4: the def that tells why, by its text. -/
namespace OM
open PySem PySem.Spec PyProof.Rows L2

/-- its text: a, the parameter; e, the exception's name; x1 .. x3, the classes; tg, the tag's name; y, the teller's name -/
inductive WhyText (a e x1 x2 x3 tg y : Str) : List Stmt → Prop where
  | mk {j k1 k2 k3 : Nat} {p1 p2 p3 p4 p5 p6 p7 p8 p9 q1 q2 q3 q4 q5 q6 q7 q8 p0 : Pos} : WhyText a e x1 x2 x3 tg y
      [.Try [.Return (some (.Tuple [.Constant (.str (mkS valueT)) j p1, .Call (.Name a p2) [] [] p3] k1 p4)) p5]
        [.ExceptHandler (some (.Tuple [.Name x1 p6, .Name x2 p7, .Name x3 p8] k2 p9)) (some e) [.Return (some (.Tuple [.Attribute (.Name e q1) tg q2, .Call (.Name y q3) [.Name e q4] [] q5] k3 q6)) q7] q8] [] [] p0]
section
variable {R : RP} {X : Cx} {an : List Str} {xok : Nat → Nat → Bool} {ct : Nat → Bool} {tag : Nat} {F : FD} {fa : Addr} {C : Cxt} {Ng : List Str} {a e x1 x2 x3 y x q : Str} {c1 c2 c3 : Addr} {sg : Scope} {g : Addr} {cdg : Value} {bg : List Stmt}
/-- what the clause's suite asks -/
def tsW (R : RP) (xok : Nat → Nat → Bool) (ct : Nat → Bool) (tag : Nat) (F : FD) (a : Addr) (cls : Value) (dd : Option Addr) : TS := fun D σ H =>
  (1 < σ.length → σ[1]? = some (some (.ref a))) ∧ ∃ hid r S x rs, RS (R.h hid) rs r S H ∧ RepX (R.h hid) r H x cls dd ∧ Sat (R.h hid) (fun _ _ _ _ => False) rs [] r H (Rep (R.h hid)) (whyD xok ct tag F x rs S) D.rt
theorem teller_h {hid : List Addr} {K : PySem.W.Frag} (tl : Teller R K an xok F fa) : Teller (R.h hid) K an xok F fa := ⟨tl.it, tl.kp, tl.ran, tl.ani, tl.rk, tl.xok⟩
theorem rf_one {R' : RP} {H : Hp} {σ : L2.St} {i : Nat} {d : D} {v : V} (hi : σ[i]? = some (some v)) (q : Rep R' [] H d v) : RF R' [] H ((σ.map fun _ => none).set i (some d)) σ := by
  refine ⟨by simp, fun j d' e => ?_⟩
  by_cases hj : i = j
  · subst hj
    have hl : i < (σ.map fun _ => (none : Option D)).length := by rw [List.length_map]; exact (List.getElem?_eq_some_iff.mp hi).1
    rw [List.getElem?_set_self hl] at e
    cases e
    exact ⟨v, hi, q⟩
  · rw [List.getElem?_set_ne hj, List.getElem?_map] at e
    cases z : σ[j]? with
    | none => rw [z] at e; cases e
    | some _ => rw [z] at e; cases e
theorem suite_why {oe : Obj} {cls : Value} {dd : Option Addr} {a : Addr} {pn : List (Addr × Obj)} {k3 : Nat} {q1 q2 q3 q4 q5 q6 q7 : Pos} (tl : Teller R X.K an xok F fa) (nd : X.N.Nodup) (hz : Zc cls dd oe) (hf : ∃ vs, oe.data = .fields vs) {lv : Nat} (room : L2H.RoomH (lv + 1) X.A) (hg : Gl X y) (hm : X.mg y = some (.ref fa)) (hdb : (y == ("__debug__" : Str)) = false)
    (he1 : X.N[1]? = some e) (he2 : X.env.scope.names.lookup e = some .local) (he3 : (e == ("__debug__" : Str)) = false) (he4 : (e == ("__classdict__" : Str)) = false) :
    PSs (X.suite a ((a, oe) :: pn)) [.Return (some (.Tuple [.Attribute (.Name e q1) (nmAt an tag) q2, .Call (.Name y q3) [.Name e q4] [] q5] k3 q6)) q7] (tsW R xok ct tag F a cls dd) := by
  refine ⟨fun pins s σ H D' I ⟨hσ', hid, r, S, x, rs, h, qx, hs⟩ => ?_⟩
  have hσ : σ[1]? = some (some (.ref a)) := hσ' (by
    have := (List.getElem?_eq_some_iff.mp he1).1
    have l : σ.length = X.N.length := I.len
    omega)
  obtain ⟨k, ns, ds, dx, fs, rfl, rfl, rfl, hx, nf, m, gg⟩ := qx
  unfold whyD at hs
  dsimp only at hs
  split at hs
  rotate_left
  · exact hs.elim
  rename_i hct
  rw [Bool.and_eq_true] at hct
  split at hs
  rotate_left
  · exact hs.elim
  rename_i t ht
  split at hs
  rotate_left
  · exact hs.elim
  rename_i d' hrun
  split at hs
  rotate_left
  · exact hs.elim
  rename_i d hun
  have room' : L2H.RoomH (lv + 1) (X.suite a ((a, oe) :: pn)).A := ⟨room.dp, room.un⟩
  have dp := room.dp
  have un := room.un
  have tlh : Teller (R.h hid) X.K an xok F fa := teller_h tl
  have ok : XOk (hotR (R.h hid) a k dx fs) X.N ⟨X.env.scope, X.fn, true, false⟩ (X.suite a ((a, oe) :: pn)) :=
    { hN := rfl, nd := nd, sc := rfl, fn := rfl, K := tl.rk.symm, calm := fun z => (by cases (show true = false from z)), pin := fun p m => (by
        have e : p = (a, k, dx) := by unfold hotR at m; simpa using m
        subst e
        exact ⟨oe, List.mem_cons_self, hz, hf⟩), pin0 := fun z => (by cases (show true = false from z)), un := (by show X.A.units + 64 < cLine; omega), dp := (by show X.A.depth + 1 < recursionLimit; omega) }
  have wd : WldX (hotR (R.h hid) a k dx fs) (hotT an) ⟨X.env.scope, X.fn, true, false⟩ (hotC xok) (X.suite a ((a, oe) :: pn)) :=
    { toWld := hot_wld tlh rfl rfl, room := fun f F e => (by cases e), lamr := fun z => (by cases (show false = true from z)) }
  have pe1 : SE (hotR (R.h hid) a k dx fs) (fun _ _ _ _ => False) [] (X.suite a ((a, oe) :: pn)) (.Attribute (.Name e q1) (nmAt an tag) q2) (ev (hotC xok) [] (.xat (.slot 1) tag)) :=
    se_xat (T := hotT an) ok wd (se_slot ok (by unfold chkVar noDbg isNm; simp only [he1, he2, he3, he4]; decide)) rfl
  have pe2 := pe_hot (X := X.suite a ((a, oe) :: pn)) (R := R.h hid) (a := a) (dx := dx) (oe := oe) (k := k) (fs := fs) (q := q3) (q2 := q4) (pos := q5) tlh List.mem_cons_self hz hf room' hg hm hdb he1 (.inl he2) he3 he4
  refine (pss_one (ps_ret (pe_tup (pa_cons pe1 (pa_cons pe2 pa_nil rfl) rfl)))).run pins s σ H D' I ?_
  refine ⟨[], _, [], rs_none h.tabs, rf_one hσ (pin_rep hx m gg), ?_⟩
  have el : ev (hotC xok) [] (.xat (.slot 1) tag) ((σ.map fun _ => none).set 1 (some (.exc k ns (atomL 0 ds)))) [] = .ok (.str t) [] := by
    have e1 : ((σ.map fun _ => (none : Option D)).set 1 (some (.exc k ns (atomL 0 ds))))[1]? = some (some (.exc k ns (atomL 0 ds))) := List.getElem?_set_self (by rw [List.length_map]; exact (List.getElem?_eq_some_iff.mp hσ).1)
    simp only [ev, e1, Out.bind]
    rw [if_pos (show (hotC xok).cl.xok k tag = true from hct.2), ht]
  rw [el]
  intro r1 H1 v1 x1 h1 qv1
  obtain ⟨e0, eN1, h1'⟩ := hot_back h x1 h1
  subst e0
  cases qv1 with
  | str ot =>
  have hx1 : H1 dx = some (.xd fs) := eN1 dx _ hx fun ps z => by cases z
  refine ⟨hσ, rs, r, S, ns, ds, d', d, h1', hx1, m, gg.ext (ext_of eN1), hrun, hun, fun H2 v2 eN2 h2 qv2 => ?_⟩
  refine ⟨by rw [sizeLine_eq]; exact Nat.le_of_ble_eq_true rfl, fun p n => ?_⟩
  exact hs r _ _ ((ext_of (eN1.trans eN2)).trans (.fresh n)) (h2.fresh n) (.tup (.inl ⟨.inl upd_same, h2.fre n⟩) (.cons (.str ot) (.cons (qv2.ext (.fresh n)) .nil)))
/-- it gives what TTwhy says -/
theorem gives_why (tl : Teller R X.K an xok F fa) (tx : WhyText a e x1 x2 x3 (nmAt an tag) y bg) (hN : Ng = [a, e]) (nd : Ng.Nodup) (hC : C.why = whyD xok ct tag F) (hct : ∀ k, ct k = true → PySem.W.exmAny X.K (.ref (R.cadr k)) [.ref c1, .ref c2, .ref c3] = some true)
    (n1 : sg.names.lookup x1 = some .globalImplicit ∧ (x1 == ("__debug__" : Str)) = false ∧ X.mg x1 = some (.ref c1)) (n2 : sg.names.lookup x2 = some .globalImplicit ∧ (x2 == ("__debug__" : Str)) = false ∧ X.mg x2 = some (.ref c2)) (n3 : sg.names.lookup x3 = some .globalImplicit ∧ (x3 == ("__debug__" : Str)) = false ∧ X.mg x3 = some (.ref c3))
    (ny : sg.names.lookup y = some .globalImplicit ∧ (y == ("__debug__" : Str)) = false ∧ X.mg y = some (.ref fa)) (hel : sg.names.lookup e = some .local) (he3 : (e == ("__debug__" : Str)) = false) (he4 : (e == ("__classdict__" : Str)) = false) {lv : Nat} (room : Room (lv + 3) X.A) :
    LamX.GivesTo X Ng x sg g cdg bg a q (TTwhy R C) := by
  intro f c' s H Q tl' act hc want
  subst hN
  cases tx with
  | @mk j k1 k2 k3 p1 p2 p3 p4 p5 p6 p7 p8 p9 q1 q2 q3 q4 q5 q6 q7 q8 p0 =>
  have nd' : e ≠ a := fun z => by
    rw [z] at nd
    simp at nd
  refine ⟨_, pss_one (try_tup3 (X := (cxOf C8.CX0 X.prog X.w X.K X.mg X.base [a, e] x sg g cdg X.A X.stack s H C8.E0).nox) (c1 := .ref c1) (c2 := .ref c2) (c3 := .ref c3) (i := 1) (ts := tsW R xok ct tag F)
      (tb := fun W D σ H => ∃ Ech : XK, (∀ cls d σ' H', Ech cls d H' → W cls d σ' H') ∧ σ[0]? = some (some (.ref f)) ∧ H c' = some (LamX.CodeO c' q) ∧ tl' Ech H fun v H' => [V.str (mkS valueT), v].length ≤ sizeLine ∧ ∀ p, H' p = none → D.rt (.ref p) (upd H' p (.tup [.str (mkS valueT), v])))
      rfl rfl nd rfl hel ⟨n1.1, n1.2.1, .inl n1.2.2⟩ ⟨n2.1, n2.2.1, .inl n2.2.2⟩ ⟨n3.1, n3.2.1, .inl n3.2.2⟩ (fun W pn xe tk _ => ?_) fun a oe cls d pn hz hf => ?_), ?_⟩
  · refine ⟨fun pins s' σ H' D' I ⟨Ech, hW, h1, h2, h3⟩ => ?_⟩
    have hp := act W pn xe Ech p2 p3 tk hW
    refine (pss_one (ps_ret (pos := p5) (pe_tup (x1 := k1) (pos := p4) (pa_cons (pe_str (x := mkS valueT) (j := j) (pos := p1)) (pa_cons hp pa_nil rfl) rfl)))).run pins s' σ H' D' I ?_
    exact ⟨h1, h2, h3⟩
  · refine suite_why (lv := lv) tl nd hz hf ?_ ny.1 ny.2.2 ny.2.1 rfl hel he3 he4
    have := room.dp
    have := room.un
    exact ⟨by show X.A.depth + 1 + 3 * (lv + 1) + 5 < recursionLimit; omega, by show X.A.units + 3 + 16 * (lv + 1) + 200 < cLine; omega⟩
  · refine ⟨_, fun cls d σ' H' ⟨hid, r, S, x, rs, h, qx, hs⟩ => ?_, rfl, hc, want⟩
    rw [hC] at hs
    refine ⟨?_, fun a' n => ⟨fun hl => List.getElem?_set_self (by rw [List.length_set] at hl; exact hl), hid, r, S, x, rs, h, qx, hs⟩⟩
    obtain ⟨k, ns, ds, dx, fs, rfl, rfl, _⟩ := qx
    unfold whyD at hs
    dsimp only at hs
    split at hs
    · rename_i hk
      rw [Bool.and_eq_true] at hk
      exact hct k hk.1
    · exact hs.elim
end
end OM
set_option Elab.async false
set_option linter.all false
set_option maxRecDepth 100000
set_option maxHeartbeats 1000000
/-! OmTbl: a law's table; what is looked at behind the top, and what it means. -/
namespace OM
open PySem PySem.Spec PyProof.Rows L2

/-- a law's defs, constants, classes, what is told of exceptions -/
structure Prog where
  fd : Nat → Option FD
  gl : Nat → Option D
  cl : Clt
  why : D → List Nat → Sto → Out D
def Prog.pars (P : Prog) : Nat → Option (List Nat × List D) := fun f => (P.fd f).map fun F => (F.ps, F.dv)
/-- a def, to a depth of calls -/
def callD (P : Prog) : Nat → Nat → List D → List Nat → Sto → Out D
  | 0, _, _, _, _ => .bad
  | k + 1, f, vs, rs, S => match P.fd f with
    | some F => F.run ⟨callD P k, P.gl, P.pars, P.cl, P.why, 4 * k⟩ vs rs S
    | none => .bad
def cxt (P : Prog) (k : Nat) : Cxt := ⟨callD P k, P.gl, P.pars, P.cl, P.why, 4 * k⟩
/-- a class: methods, properties, constants, an instance's own names, __init__, static methods -/
structure CC where
  ms : List (Nat × Nat)
  ps : List (Nat × Nat)
  cs : List (Nat × D)
  fs : List Nat
  ini : Option Nat
  sms : List (Nat × Nat)
/-- a def as it stands behind the top: where, its names, its text -/
structure EntD where
  ad : PySem.W.Frag → Addr
  name : Str
  qual : Str
  params : Arguments
  body : List Stmt
  scope : Scope
/-- an exception class: its id, its tag's name, its tag, its field's name, its built-in base, its __init__ -/
structure XC where
  c : Nat
  tag : Nat
  tx : List Nat
  fld : Option Nat
  base : Nat
  d : EntD
/-- the def that tells why; the def that tells a field; the three classes -/
structure WC where
  w : EntD
  x : Str
  d : EntD
  y : Str
  F : FD
  N : List Str
  p0 : Nat
  tag : Nat
  a : Str
  e : Str
  x1 : Str
  x2 : Str
  x3 : Str
/-- an exception class, without its text -/
abbrev XL : Type := List (Nat × Nat × List Nat × Option Nat)
def xlOf (xs : List XC) : XL := xs.map fun x => (x.c, x.tag, x.tx, x.fld)
def xokE (xl : XL) (c f : Nat) : Bool := xl.any fun x => x.1 == c && (x.2.1 == f || x.2.2.2 == some f)
def ctE (xl : XL) (c : Nat) : Bool := xl.any fun x => x.1 == c
def whyE (xl : XL) (tag : Nat) (F : FD) : D → List Nat → Sto → Out D := whyD (xokE xl) (ctE xl) tag F
def xokOf (xs : List XC) : Nat → Nat → Bool := xokE (xlOf xs)
def ctOf (xs : List XC) : Nat → Bool := ctE (xlOf xs)
def cltE (cs : List (Nat × CC)) (xl : XL) : Clt := ⟨fun c m => (cs.lookup c).bind fun k => k.ms.lookup m, fun c f => (cs.lookup c).bind fun k => k.ps.lookup f, fun c f => (cs.lookup c).bind fun k => k.cs.lookup f, fun c => (cs.lookup c).bind (·.ini), fun c f => ((cs.lookup c).map fun k => k.fs.contains f).getD false, fun c m => (cs.lookup c).bind fun k => k.sms.lookup m,
  fun c => xl.lookup c, xokE xl⟩
def cltOf (cs : List (Nat × CC)) (xs : List XC) : Clt := cltE cs (xlOf xs)

/-! ### constants of the top -/
mutual
def dB (K : PySem.W.Frag) : D → Value → Bool
  | .non, u => (match u with
    | .none => true
    | _ => false)
  | .bl b, u => (match u with
    | .bool c => b == c
    | _ => false)
  | .int i, u => (match u with
    | .int j _ => decide (i = j)
    | _ => false)
  | .str x, u => (match u with
    | .str y _ => decide (mkS x = y) && okS x
    | _ => false)
  | .tup ds, u => (match u with
    | .ref a => (match K.lookup a with
      | some ⟨.type c, _, .seq its _, _⟩ => decide (c = "tuple") && decide (its.size ≤ sizeLine) && dBs K ds its.toList
      | _ => false)
    | _ => false)
  | _, _ => false
def dBs (K : PySem.W.Frag) : List D → List Value → Bool
  | [], us => us.isEmpty
  | d :: ds, us => (match us with
    | u :: us => dB K d u && dBs K ds us
    | [] => false)
end
mutual
theorem dB_ok {K : PySem.W.Frag} : ∀ {d : D} {u : Value}, dB K d u = true → ∃ v, RelV v u ∧ ∀ (R : RP) (r : List Addr) (H : Hp), R.K = K → Rep R r H d v
  | .non, u, h => by
    unfold dB at h
    split at h
    · exact ⟨.non, rfl, fun _ _ _ _ => .non⟩
    · cases h
  | .bl b, u, h => by
    unfold dB at h
    split at h
    · have e := eq_of_beq h
      subst e
      exact ⟨.bl b, rfl, fun _ _ _ _ => .bl b⟩
    · cases h
  | .int i, u, h => by
    unfold dB at h
    split at h
    · have e := of_decide_eq_true h
      subst e
      exact ⟨.int i, ⟨_, rfl⟩, fun _ _ _ _ => .int i⟩
    · cases h
  | .str x, u, h => by
    unfold dB at h
    split at h
    · rw [Bool.and_eq_true] at h
      have e := of_decide_eq_true h.1
      subst e
      exact ⟨.str (mkS x), ⟨_, rfl⟩, fun _ _ _ _ => .str h.2⟩
    · cases h
  | .tup ds, u, h => by
    unfold dB at h
    split at h
    · split at h
      · rename_i a _ c od its n sl q
        simp only [Bool.and_eq_true, decide_eq_true_eq] at h
        obtain ⟨⟨rfl, h2⟩, h3⟩ := h
        obtain ⟨vs, r1, r2⟩ := dBs_ok h3
        exact ⟨.ref a, rfl, fun R r H e => .tup (.inr ⟨_, its, n, by rw [e]; exact q, rfl, rfl, h2, r1⟩) (r2 R r H e)⟩
      · cases h
    · cases h
  | .lst _, u, h => by unfold dB at h; cases h
  | .dct _ _, u, h => by unfold dB at h; cases h
  | .obj _ _ _, u, h => by unfold dB at h; cases h
  | .exc _ _ _, u, h => by unfold dB at h; cases h
  | .ref _, u, h => by unfold dB at h; cases h
  | .fn _, u, h => by unfold dB at h; cases h
  | .cls _, u, h => by unfold dB at h; cases h
  | .ty _, u, h => by unfold dB at h; cases h
  | .frz _, u, h => by unfold dB at h; cases h
theorem dBs_ok {K : PySem.W.Frag} : ∀ {ds : List D} {us : List Value}, dBs K ds us = true → ∃ vs, Vals vs us ∧ ∀ (R : RP) (r : List Addr) (H : Hp), R.K = K → Reps R r H ds vs
  | [], us, h => by
    unfold dBs at h
    cases us with
    | nil => exact ⟨[], .nil, fun _ _ _ _ => .nil⟩
    | cons _ _ => cases h
  | d :: ds, us, h => by
    unfold dBs at h
    cases us with
    | nil => cases h
    | cons u us =>
      dsimp only at h
      rw [Bool.and_eq_true] at h
      obtain ⟨v, a, b⟩ := dB_ok h.1
      obtain ⟨vs, c, e⟩ := dBs_ok h.2
      exact ⟨v :: vs, .cons a c, fun R r H z => .cons (b R r H z) (e R r H z)⟩
end

/-! ### the table -/
/-- a class's rows -/
def clsBody : Stmt → List Stmt
  | .ClassDef _ _ _ b _ _ _ _ _ _ _ => b
  | _ => []
/-- a def's parts -/
def argsOf : Stmt → Arguments
  | .FunctionDef _ a _ _ _ _ _ _ _ _ => a
  | _ => ⟨[], [], none, [], [], none, []⟩
def bodyOf : Stmt → List Stmt
  | .FunctionDef _ _ b _ _ _ _ _ _ _ => b
  | _ => []
def scopeOf : Stmt → Scope
  | .FunctionDef _ _ _ _ _ _ sc _ _ _ => sc
  | _ => ⟨.function, [], false, false, []⟩
structure Ent where
  id : Nat
  gnm : Option Str
  d : EntD
  F : FD
  N : List Str
  shp : List (Nat × List Nat)
  lam : Bool
structure Tbl where
  gn : List Str
  an : List Str
  bl : List Str
  es : List Ent
  gl : List (Nat × D)
  cn : List (Nat × Str)
  cs : List (Nat × CC)
  xs : List XC
  why : Option WC
  file : Str
def Tbl.at (t : Tbl) (f : Nat) : Option Ent := t.es.find? fun e => e.id == f
theorem find_look {α : Type} {f : Nat} {g : Ent → α} : ∀ l : List Ent, (l.find? fun e => e.id == f).map g = (l.map fun e => (e.id, g e)).lookup f
  | [] => rfl
  | e :: l => by
    rw [List.find?_cons, List.map_cons, List.lookup_cons, ← find_look l]
    cases h : e.id == f with
    | true =>
      rw [eq_of_beq h, beq_self_eq_true]
      rfl
    | false =>
      have : (f == e.id) = false := by
        rw [beq_eq_false_iff_ne] at h ⊢
        exact fun z => h z.symm
      rw [this]
def Tbl.P (t : Tbl) : Prog := ⟨fun f => (t.es.map fun e => (e.id, e.F)).lookup f, fun g => t.gl.lookup g, cltOf t.cs t.xs, match t.why with
  | some w => whyE (xlOf t.xs) w.tag w.F
  | none => fun _ _ _ => .bad⟩
def Tbl.sta (t : Tbl) : Sta := ⟨t.gn, t.an, fun f => (t.at f).map (·.F), fun f => (t.at f).bind (·.gnm), fun c => t.cn.lookup c, fun f => ((t.at f).map (·.shp)).getD [], fun m => t.cs.filterMap fun k => k.2.ms.lookup m, (cltOf t.cs t.xs).ini, (cltOf t.cs t.xs).smt, t.bl, t.why.map (·.x)⟩
/-- how a shape of call binds, m defaults -/
def ShB (an : List Str) (d : EntD) (ps : List Nat) (n : Nat) (kn : List Nat) : Nat → Prop
  | 0 => ∀ (kV doc pm : Value) (av : Option Addr) (cdv ct : Value) (us ws zs : List Value), us.length = n → ws.length = kn.length → bindA [] ps us kn ws = some zs →
    bindArgs (PySem.W.fnOf d.name d.qual d.params d.body d.scope .none kV doc pm av cdv ct) ⟨us, (kn.map (nmAt an)).zip ws⟩ = pure ((ps.map (nmAt an)).zip zs)
  | m => ∀ (T : Addr) (kV doc pm : Value) (av : Option Addr) (cdv ct : Value) (us ws dw zs : List Value), us.length = n → ws.length = kn.length → dw.length = m → bindA dw ps us kn ws = some zs →
    ∃ k, bindArgs (PySem.W.fnOf d.name d.qual d.params d.body d.scope (.ref T) kV doc pm av cdv ct) ⟨us, (kn.map (nmAt an)).zip ws⟩ = seqItems? (.ref T) >>= k ∧ k (some dw.toArray) = pure ((ps.map (nmAt an)).zip zs)
def ShL (an : List Str) (e : Ent) : List (Nat × List Nat) → Prop
  | [] => True
  | q :: l => ShB an e.d e.F.ps q.1 q.2 e.F.dv.length ∧ ShL an e l
def ShA (an : List Str) : List Ent → Prop
  | [] => True
  | e :: es => ShL an e e.shp ∧ ShA an es
theorem ShL.get {an : List Str} {e : Ent} : ∀ {l : List (Nat × List Nat)} {q : Nat × List Nat}, ShL an e l → q ∈ l → ShB an e.d e.F.ps q.1 q.2 e.F.dv.length
  | _ :: _, q, h, m => by
    rcases List.mem_cons.mp m with rfl | m
    · exact h.1
    · exact ShL.get h.2 m
theorem ShA.get {an : List Str} : ∀ {es : List Ent} {e : Ent}, ShA an es → e ∈ es → ShL an e e.shp
  | _ :: _, e, h, m => by
    rcases List.mem_cons.mp m with rfl | m
    · exact h.1
    · exact ShA.get h.2 m
/-- an entry's text reads as it says -/
def entOk (t : Tbl) (e : Ent) : Bool := chkD t.sta e.N e.F false e.lam e.d.body e.d.scope
def nmOk (l : List Str) : Bool := decide l.Nodup && l.all fun s => s.cps.all (· < 2000000)
/-! ### what is looked at behind the top -/
abbrev FnA : Type := Option (Str × Str × Arguments × FuncBody × Scope × Addr × List Str × Addr)
def fnA (K : PySem.W.Frag) (a : Addr) : FnA := match K.lookup a with
  | some ⟨_, _, .func fd, _⟩ => some (fd.name, fd.qualname, fd.params, fd.body, fd.scope, fd.globals, fd.closure.map (·.1), fd.builtins)
  | _ => none
def EntD.val (d : EntD) (cl : List Str) : FnA := some (d.name, d.qual, d.params, .stmts d.body, d.scope, mainGlobals, cl, builtinsNs)
/-- the defaults, as they stand -/
def dflB (K : PySem.W.Frag) (dV : Value) : List D → Bool
  | [] => (match dV with
    | .none => true
    | _ => false)
  | d :: ds => (match dV with
    | .ref T => (match K.lookup T with
      | some ⟨_, _, .seq its _, _⟩ => dBs K (d :: ds) its.toList
      | _ => false)
    | _ => false)
def fnB (K : PySem.W.Frag) (d : EntD) (dv : List D) : Bool := PySem.W.keepIn K (.ref (d.ad K)) && (match K.lookup (d.ad K) with
  | some ⟨_, _, .func fd, _⟩ => PySem.W.codeIn K fd.code d.qual && (dflB K fd.defaults dv && He.kwdB K fd.kwdefaults [])
  | _ => false)
def entB (K : PySem.W.Frag) (e : Ent) : Bool := fnB K e.d e.F.dv && (match e.gnm with
  | some x => He.eqO (PySem.W.nsIn K mainGlobals x) (some (some (.ref (e.d.ad K))))
  | none => true)
def adOf (t : Tbl) (K : PySem.W.Frag) (g : Nat) : Addr := match t.at g with
  | some e => e.d.ad K
  | none => 0
/-- the property object of the name -/
def propAd (K : PySem.W.Frag) (C : Addr) (f : Str) : Addr := match PySem.W.findIn K (.ref C) f with
  | some (some (.ref p)) => p
  | _ => 0
/-- a property's getter -/
def getAd (K : PySem.W.Frag) (C : Addr) (f : Str) : Addr := match PySem.W.recIn K (propAd K C f) "property" with
  | some (.ref g :: _) => g
  | _ => 0
def clsB (t : Tbl) (K : PySem.W.Frag) (x : Str) (k : CC) : Bool :=
  He.eqO (PySem.W.nsIn K mainGlobals x) (some (some (.ref (He.ga K x)))) && ((He.Fa.cls x).ok K || (k.ms.isEmpty && k.ps.isEmpty && k.cs.isEmpty && k.fs.isEmpty)) &&
  (k.ms.all fun q => (t.at q.2).isSome && He.eqO (PySem.W.findIn K (.ref (He.ga K x)) (nmAt t.an q.1)) (some (some (.ref (adOf t K q.2)))) && PySem.W.isFn K (.ref (adOf t K q.2)) && PySem.W.keepIn K (.ref (adOf t K q.2))) &&
  (k.ps.all fun q => (t.at q.2).isSome && decide ((1, ([] : List Nat)) ∈ t.sta.shp q.2) && He.eqO (PySem.W.findIn K (.ref (He.ga K x)) (nmAt t.an q.1)) (some (some (.ref (propAd K (He.ga K x) (nmAt t.an q.1))))) && He.eqO (PySem.W.specialIn K (.ref (propAd K (He.ga K x) (nmAt t.an q.1))) "__get__") (some (some (.builtin "property.__get__"))) &&
    decide (PySem.W.takesIn K (.ref (propAd K (He.ga K x) (nmAt t.an q.1))) = some true) && (match PySem.W.recIn K (propAd K (He.ga K x) (nmAt t.an q.1)) "property" with
      | some (.ref g :: _) => decide (g = adOf t K q.2)
      | _ => false)) &&
  (k.cs.all fun q => (match PySem.W.findIn K (.ref (He.ga K x)) (nmAt t.an q.1) with
    | some (some u) => dB K q.2 u && He.eqO (PySem.W.specialIn K u "__get__") (some none) && !PySem.W.copiedNames.contains (nmAt t.an q.1)
    | _ => false)) &&
  (k.fs.all fun f => He.eqO (PySem.W.findIn K (.ref (He.ga K x)) (nmAt t.an f)) (some none)) &&
  (match k.ini with
    | some g => (t.at g).isSome && PySem.W.makesIn K (He.ga K x) && He.eqO (PySem.W.findIn K (.ref (He.ga K x)) "__init__") (some (some (.ref (adOf t K g)))) && PySem.W.isFn K (.ref (adOf t K g)) && PySem.W.keepIn K (.ref (He.ga K x))
    | none => true)
/-- a static method's record -/
def smAd (K : PySem.W.Frag) (C : Addr) (m : Str) : Addr := match PySem.W.findCls K (.ref C) (.type "type") m with
  | some (.get _ (.ref p) _ _) => p
  | _ => 0
def smB (t : Tbl) (K : PySem.W.Frag) (x : Str) (k : CC) : Bool := (k.sms.isEmpty || (PySem.W.readsIn K (He.ga K x) (.type "type") && He.eqO (PySem.W.specialIn K (.ref (He.ga K x)) "__getattribute__") (some (some (.builtin "type.__getattribute__"))))) &&
  k.sms.all fun q => (t.at q.2).isSome && (match PySem.W.findCls K (.ref (He.ga K x)) (.type "type") (nmAt t.an q.1) with
    | some (.get (.builtin g) (.ref p) .none (.ref D)) => decide (g = "staticmethod.__get__") && decide (D = He.ga K x) && (match PySem.W.recIn K p "staticmethod" with
      | some (.ref f :: _) => decide (f = adOf t K q.2)
      | _ => false)
    | _ => false)
/-- a static method's def -/
def smFn (K : PySem.W.Frag) (C : Addr) (m : Str) : Addr := match PySem.W.recIn K (smAd K C m) "staticmethod" with
  | some (.ref f :: _) => f
  | _ => 0
theorem smB_at {t : Tbl} {K : PySem.W.Frag} {x : Str} {k : CC} {m g : Nat} (h : smB t K x k = true) (q : k.sms.lookup m = some g) (mm : (m, g) ∈ k.sms) : (t.at g).isSome = true ∧ SMet K (He.ga K x) (nmAt t.an m) (adOf t K g) := by
  unfold smB at h
  rw [Bool.and_eq_true, Bool.or_eq_true] at h
  obtain ⟨h1, h2⟩ := h
  have h3 := List.all_eq_true.mp h2 _ mm
  rw [Bool.and_eq_true] at h3
  have h4 := h1.resolve_left (by cases z : k.sms with | nil => rw [z] at mm; cases mm | cons _ _ => simp)
  rw [Bool.and_eq_true] at h4
  refine ⟨h3.1, h4.1, He.eqO_ok h4.2, ?_⟩
  have h5 := h3.2
  split at h5
  · rename_i gid p D e
    simp only [Bool.and_eq_true, decide_eq_true_eq] at h5
    obtain ⟨⟨rfl, rfl⟩, h6⟩ := h5
    refine ⟨p, e, ?_⟩
    split at h6
    · rename_i f rest e2
      have e3 : f = adOf t K g := of_decide_eq_true h6
      rw [e3] at e2
      exact ⟨rest, e2⟩
    · cases h6
  · cases h5
def clsBs (t : Tbl) (K : PySem.W.Frag) : Bool := t.cs.all fun q => match t.cn.lookup q.1 with
  | some x => clsB t K x q.2 && smB t K x q.2
  | none => false
/-- a def's code object -/
def codeAd (K : PySem.W.Frag) (a : Addr) : Addr := match K.lookup a with
  | some ⟨_, _, .func fd, _⟩ => (match fd.code with
    | .ref c => c
    | _ => 0)
  | _ => 0
/-- a code object's table -/
def tabAd (K : PySem.W.Frag) (c : Addr) : Addr := match K.lookup c with
  | some ⟨_, _, .fields vs, _⟩ => (match (vs[11]? : Option Value) with
    | some (.ref P) => P
    | _ => 0)
  | _ => 0
def lamCs (t : Tbl) (K : PySem.W.Frag) : List (Addr × Addr) := (t.es.filter (·.lam)).map fun e => (codeAd K (e.d.ad K), tabAd K (codeAd K (e.d.ad K)))
def lamTs (t : Tbl) (K : PySem.W.Frag) : List (Addr × Str) := (t.es.filter (·.lam)).map fun e => (tabAd K (codeAd K (e.d.ad K)), (e.d.qual ++ ".<locals>.") ++ "<lambda>")
def codeHdB (K : PySem.W.Frag) (c P : Addr) : Bool := match K.lookup c with
  | some ⟨.type ty, _, .fields vs, _⟩ => decide (ty = "code") && decide (vs[11]? = some (.ref P)) && decide (vs.getD 11 .none = .ref P) && (match vs.getD 18 .none with
    | .str _ _ => true
    | _ => false) && (match vs.getD 7 .none with
    | .int _ _ => true
    | _ => false) && (match vs.getD 9 .none with
    | .bool _ => true
    | _ => false) && (match vs.getD 10 .none with
    | .int _ _ => true
    | _ => false) && decide (c ≠ P)
  | _ => false
def isTab (o : Option Obj) : Bool := match o with
  | some ⟨.none, none, .fields vs, sl⟩ => vs.isEmpty && sl.isEmpty
  | _ => false
def lamB (t : Tbl) (K0 K : PySem.W.Frag) : Bool := ((lamCs t K).all fun p => codeHdB K p.1 p.2 && isTab (K0.lookup p.2) && (K.lookup p.2).isNone) && decide ((lamCs t K).map (·.2)).Nodup && (t.es.all fun e => !e.lam || (match K.lookup (e.d.ad K) with
  | some ⟨_, _, .func fd, _⟩ => (match fd.code with
    | .ref _ => true
    | _ => false)
  | _ => false))
def Tbl.ex (t : Tbl) (K : PySem.W.Frag) : Bool := (t.es.all (entB K)) && (t.bl.all fun x => He.eqO (PySem.W.nsIn K mainGlobals x) (some none)) && (t.gl.all fun q => match PySem.W.nsIn K mainGlobals (nmAt t.gn q.1) with
  | some (some u) => dB K q.2 u
  | _ => false) && clsBs t K && (t.cn.all fun x => He.eqO (PySem.W.nsIn K mainGlobals x.2) (some (some (.ref (He.ga K x.2)))))
/-! ### exceptions -/
def xB : Nat → String
  | 0 => "ValueError"
  | 1 => "LookupError"
  | _ => "IndexError"
def xNew : Nat → String
  | 0 => "ValueError.__new__"
  | 1 => "LookupError.__new__"
  | _ => "IndexError.__new__"
def xIni : Nat → String
  | 0 => "ValueError.__init__"
  | 1 => "LookupError.__init__"
  | _ => "IndexError.__init__"
def xBm : Nat → List Value
  | 0 => [.type "ValueError", .type "Exception", .type "BaseException", .type "object"]
  | 1 => [.type "LookupError", .type "Exception", .type "BaseException", .type "object"]
  | _ => [.type "IndexError", .type "LookupError", .type "Exception", .type "BaseException", .type "object"]
theorem xbase : ∀ n, XBase (xB n) (xNew n) (xIni n) (xBm n)
  | 0 => xb_val
  | 1 => xb_look
  | _ + 2 => xb_ind
def selfOf (p : Arguments) : Str := match (p.posonlyargs ++ p.args).head? with
  | some a => a.arg
  | none => ⟨#[]⟩
def xRest (self : Str) (fld : Option Str) : List Stmt → Bool
  | [] => fld.isNone
  | [.Assign [.Attribute (.Name s _) f _] (.Name p _) _] => decide (s = self) && decide (fld = some f) && decide (p = f) && !(p == ("__debug__" : Str))
  | _ => false
def xTxt (self tag T : Str) (fld : Option Str) : List Stmt → Bool
  | .Expr (.Call (.Attribute (.Call (.Name s0 _) [] [] _) i0 p2) [] [] p3) _ :: .Assign [.Attribute (.Name s _) tg _] (.Constant (.str U) _ _) _ :: rest =>
    decide (s0 = ("super" : Str)) && decide (i0 = ("__init__" : Str)) && decide (s = self) && decide (tg = tag) && decide (U = T) && (p2.endLine == p3.line) && xRest self fld rest
  | _ => false
/-- its text is right -/
def xcOk (an : List Str) (x : XC) : Bool := okS x.tx && xTxt (selfOf x.d.params) (nmAt an x.tag) (mkS x.tx) (x.fld.map (nmAt an)) x.d.body && (x.d.params.posonlyargs ++ x.d.params.args).head?.isSome &&
  isNm x.d.scope .globalImplicit "super" && isNm x.d.scope .free "__class__" && isNm x.d.scope .local (selfOf x.d.params) && (match x.d.scope.kind with | .function => true | _ => false) && !x.d.scope.isCoroutine && !x.d.scope.isGenerator && (x.d.scope.names.all fun y => !decide (y.2 = .cell)) && !(selfOf x.d.params == ("__debug__" : Str)) &&
  (match x.fld with
    | some f => isNm x.d.scope .local (nmAt an f) && decide (nmAt an f ≠ nmAt an x.tag) && decide (nmAt an f ≠ selfOf x.d.params)
    | none => true)
def xcB (t : Tbl) (K : PySem.W.Frag) (x : XC) : Bool := match t.cn.lookup x.c with
  | none => false
  | some nm =>
    He.eqO (PySem.W.findIn K (.ref (He.ga K nm)) "__init__") (some (some (.ref (x.d.ad K)))) && decide (PySem.W.typeIn K (.ref (x.d.ad K)) = some (.type "function")) && (match PySem.W.clsIn K (He.ga K nm) with
      | some cd => cd.hasDict
      | none => false) && PySem.W.excOver K (He.ga K nm) (xBm x.base) && PySem.W.excInitIn K (He.ga K nm) (xBm x.base) (xNew x.base) &&
    He.eqO (PySem.W.findIn K (.ref (He.ga K nm)) "__setattr__") (some (some (.builtin "object.__setattr__"))) && He.eqO (PySem.W.findIn K (.ref (He.ga K nm)) (nmAt t.an x.tag)) (some none) && (match x.fld with
      | some f => He.eqO (PySem.W.findIn K (.ref (He.ga K nm)) (nmAt t.an f)) (some none)
      | none => true) && He.eqO (PySem.W.ks_superIn K (He.ga K nm) (He.ga K nm) "__init__") (some (some (.builtin (xIni x.base)))) && decide (PySem.W.subIn K (.ref (He.ga K nm)) (.type (xB x.base)) = some true) && decide (PySem.W.mroIn K (He.ga K nm) (.ref (He.ga K nm)) = some true) &&
    He.eqO (PySem.W.nsIn K cStatics "thirdparty.any") (some none) && He.eqO (PySem.W.nsIn K mainGlobals "super") (some none) && decide (PySem.W.subIn K (.ref (He.ga K nm)) (.type "BaseException") = some true) && decide (PySem.W.typeIn K (.ref (He.ga K nm)) = some (.type "type")) && PySem.W.keepIn K (.ref (He.ga K nm)) && L2.xfB K (He.ga K nm) &&
    (match K.lookup (x.d.ad K) with
      | some ⟨_, _, .func fd, _⟩ => (match fd.closure, fd.code with
        | [(cn, cc)], .ref cda => (match fd.defaults with | .none => true | _ => false) && decide (cn = ("__class__" : Str)) && (match K.lookup cc with
          | some ⟨_, _, .cell (some (.ref D)), _⟩ => D == He.ga K nm
          | _ => false) && PySem.W.codeIn K (.ref cda) x.d.qual && (match K.lookup cda with
          | some ⟨_, _, .fields vs, _⟩ => (match (vs[2]? : Option Value) with
            | some (.str f _) => decide (t.file = f)
            | _ => false)
          | _ => false)
        | _, _ => false)
      | _ => false)
def ShX (an : List Str) (x : XC) : Prop := ∀ (kV doc pm : Value) (av : Option Addr) (cdv ct : Value) (cc : Addr) (e : Value) (us : List Value), us.length = x.fld.toList.length →
  bindArgs (PySem.W.ksFn x.d.name x.d.qual x.d.params x.d.body x.d.scope .none kV doc pm av cdv ct cc) ⟨e :: us, []⟩ = pure ((selfOf x.d.params, e) :: (x.fld.map (nmAt an)).toList.zip us)
def ShXs (an : List Str) : List XC → Prop
  | [] => True
  | x :: xs => ShX an x ∧ ShXs an xs
theorem ShXs.get {an : List Str} : ∀ {xs : List XC} {x : XC}, ShXs an xs → x ∈ xs → ShX an x
  | _ :: _, x, h, m => by
    rcases List.mem_cons.mp m with rfl | m
    · exact h.1
    · exact ShXs.get h.2 m
/-! ### the def that tells why -/
def whyTxtB (a e x1 x2 x3 tg y : Str) : List Stmt → Bool
  | [.Try [.Return (some (.Tuple [.Constant (.str u) _ p1, .Call (.Name a' _) [] [] _] _ _)) _] [.ExceptHandler (some (.Tuple [.Name y1 _, .Name y2 _, .Name y3 _] _ _)) (some e') [.Return (some (.Tuple [.Attribute (.Name e1 _) tg' _, .Call (.Name y' _) [.Name e2 _] [] _] _ _)) _] _] [] [] _] =>
    decide (u = mkS valueT) && decide (a' = a) && decide (y1 = x1) && decide (y2 = x2) && decide (y3 = x3) && decide (e' = e) && decide (e1 = e) && decide (tg' = tg) && decide (y' = y) && decide (e2 = e)
  | _ => false
theorem whyTxtB_ok {a e x1 x2 x3 tg y : Str} {b : List Stmt} (h : whyTxtB a e x1 x2 x3 tg y b = true) : WhyText a e x1 x2 x3 tg y b := by
  unfold whyTxtB at h
  split at h
  · simp only [Bool.and_eq_true, decide_eq_true_eq] at h
    obtain ⟨⟨⟨⟨⟨⟨⟨⟨⟨rfl, rfl⟩, rfl⟩, rfl⟩, rfl⟩, rfl⟩, rfl⟩, rfl⟩, rfl⟩, rfl⟩ := h
    exact .mk
  · cases h
def isDbg (x : Str) : Bool := x == ("__debug__" : Str)
def wcOk (an : List Str) (w : WC) : Bool := whyTxtB w.a w.e w.x1 w.x2 w.x3 (nmAt an w.tag) w.y w.w.body && decide (w.w.name = w.x) && decide (w.w.qual = w.x) && chkD (hotT an) w.N w.F true false w.d.body w.d.scope && decide (w.F.ps = [w.p0]) && w.F.dv.isEmpty &&
  (match w.w.scope.kind with | .function => true | _ => false) && !w.w.scope.isCoroutine && !w.w.scope.isGenerator && decide (w.a ≠ w.e) && (isNm w.w.scope .local w.a || isNm w.w.scope .cell w.a) && (w.w.scope.names.all fun y => !decide (y.2 = .free)) &&
  isNm w.w.scope .globalImplicit w.x1 && isNm w.w.scope .globalImplicit w.x2 && isNm w.w.scope .globalImplicit w.x3 && isNm w.w.scope .globalImplicit w.y && isNm w.w.scope .local w.e && noDbg w.x && noDbg w.x1 && noDbg w.x2 && noDbg w.x3 && noDbg w.y && noDbg w.a && noDbg w.e
def wcB (t : Tbl) (K : PySem.W.Frag) (w : WC) : Bool := fnB K w.w [] && fnB K w.d [] && He.eqO (PySem.W.nsIn K mainGlobals w.x) (some (some (.ref (w.w.ad K)))) && He.eqO (PySem.W.nsIn K mainGlobals w.y) (some (some (.ref (w.d.ad K)))) &&
  He.eqO (PySem.W.nsIn K mainGlobals w.x1) (some (some (.ref (He.ga K w.x1)))) && He.eqO (PySem.W.nsIn K mainGlobals w.x2) (some (some (.ref (He.ga K w.x2)))) && He.eqO (PySem.W.nsIn K mainGlobals w.x3) (some (some (.ref (He.ga K w.x3)))) &&
  (t.xs.all fun x => match t.cn.lookup x.c with
    | some nm => decide (PySem.W.exmAny K (.ref (He.ga K nm)) [.ref (He.ga K w.x1), .ref (He.ga K w.x2), .ref (He.ga K w.x3)] = some true)
    | none => false)
structure ShW (an : List Str) (c : WC) : Prop where
  hw : ∀ (kV doc pm : Value) (av : Option Addr) (cdv ct : Value) (u : Value), bindArgs (PySem.W.fnOf c.w.name c.w.qual c.w.params c.w.body c.w.scope .none kV doc pm av cdv ct) ⟨[u], []⟩ = pure [(c.a, u)]
  hd : ∀ (kV doc pm : Value) (av : Option Addr) (cdv ct : Value) (u : Value), bindArgs (PySem.W.fnOf c.d.name c.d.qual c.d.params c.d.body c.d.scope .none kV doc pm av cdv ct) ⟨[u], []⟩ = pure [(nmAt an c.p0, u)]
def ShWs (an : List Str) : Option WC → Prop
  | none => True
  | some w => ShW an w
/-! ### all of it -/
def tblOk (t : Tbl) : Bool := nmOk t.an && t.es.all (entOk t) && t.xs.all (xcOk t.an) && (match t.why with
  | some w => wcOk t.an w
  | none => true)
/-- without the tables -/
def less (K : PySem.W.Frag) (ps : List Addr) : PySem.W.Frag := K.filter fun q => !ps.contains q.1
theorem less_at {ps : List Addr} {a : Addr} {o : Obj} : ∀ {K : PySem.W.Frag}, (less K ps).lookup a = some o → K.lookup a = some o
  | [], h => h
  | (b, u) :: r, h => by
    unfold less at h
    rw [List.filter_cons] at h
    by_cases hp : (!ps.contains b) = true
    · rw [if_pos hp] at h
      rw [List.lookup_cons] at h ⊢
      cases q : (a == b) with
      | true => rw [q] at h; exact h
      | false =>
        rw [q] at h
        exact less_at h
    · rw [if_neg hp] at h
      have i := less_at (K := r) h
      rw [List.lookup_cons]
      cases q : (a == b) with
      | true =>
        exfalso
        have e : a = b := eq_of_beq q
        subst e
        have hc : ps.contains a = true := by simpa using hp
        have key : ∀ {K : PySem.W.Frag}, (less K ps).lookup a = none := by
          intro K
          induction K with
          | nil => rfl
          | cons x K ih =>
            obtain ⟨b, u⟩ := x
            unfold less
            rw [List.filter_cons]
            by_cases hb : (!ps.contains b) = true
            · rw [if_pos hb, List.lookup_cons]
              cases z : (a == b) with
              | true => rw [eq_of_beq z] at hc; rw [hc] at hb; cases hb
              | false => exact ih
            · rw [if_neg hb]
              exact ih
        have z : (less r ps).lookup a = some o := h
        rw [key] at z
        cases z
      | false => exact i
abbrev AlO : Type := Bool × List FnA
def obsO (t : Tbl) (K0 K : PySem.W.Frag) : AlO := (t.ex K && (t.xs.all (xcB t K)) && (match t.why with
  | some w => wcB t K w
  | none => true) && lamB t K0 K, (t.es.map fun e => fnA K (e.d.ad K)) ++ ((t.xs.map fun x => fnA K (x.d.ad K)) ++ match t.why with
  | some w => [fnA K (w.w.ad K), fnA K (w.d.ad K)]
  | none => []))
def valO (t : Tbl) : AlO := (true, (t.es.map fun e => e.d.val []) ++ ((t.xs.map fun x => x.d.val ["__class__"]) ++ match t.why with
  | some w => [w.w.val [], w.d.val []]
  | none => []))
def asO (g : Addr → Option Obj) : Nat → List Addr
  | 0 => [mainGlobals, cStatics]
  | n + 1 => He.growD g (asO g n)
def obsOK (t : Tbl) (K0 : PySem.W.Frag) : AlO := obsO t K0 (less K0 ((lamCs t K0).map (·.2)))
def obsOG (n : Nat) (t : Tbl) (g : Addr → Option Obj) : AlO := obsOK t (He.frG g (asO g n))
def hookO (n : Nat) (t : Tbl) : PySem.W.Hook where
  α := AlO
  obs := fun s => obsOG n t s.heap.get?
  val := fun _ => valO t
  says := fun _ h => ∃ K0 : PySem.W.Frag, K0.In h ∧ obsOK t K0 = valO t
  of := fun _ _ e => ⟨_, He.frG_in, e⟩
  keeps := fun _ _ _ ⟨K, hK, c⟩ k => ⟨K, PySem.W.Frag.In.keeps hK k, c⟩
theorem obsOG_eq {n : Nat} {t : Tbl} {g : Addr → Option Obj} {s : Shared} (h : ∀ a, g a = s.heap.get? a) : obsOG n t g = (hookO n t).obs s := by
  have e : g = s.heap.get? := funext h
  rw [e]
  rfl
end OM
set_option Elab.async false
set_option linter.all false
set_option maxRecDepth 100000
set_option maxHeartbeats 1000000
/-! OmTbl2: what the looking says of defs, exceptions, the def that tells why. -/
namespace OM
open PySem PySem.Spec PyProof.Rows L2

/-- a def with its defaults -/
structure FnE (K : PySem.W.Frag) (d : EntD) (dv : List D) (fd : FuncData) (dvs : List V) (dw : List Value) : Prop where
  fn : FunD K d.name d.qual d.params d.body d.scope dvs [] (d.ad K) fd
  rep : ∀ (R : RP) (r : List Addr) (H : Hp), R.K = K → Reps R r H dv dvs
  vals : Vals dvs dw
  sh : ∀ an ps n kn, ShB an d ps n kn dv.length → Shape K (nmAt an) fd ps dw n kn
theorem dBs_len {K : PySem.W.Frag} : ∀ {ds : List D} {us : List Value}, dBs K ds us = true → us.length = ds.length
  | [], us, h => by
    unfold dBs at h
    cases us with
    | nil => rfl
    | cons _ _ => cases h
  | d :: ds, us, h => by
    unfold dBs at h
    cases us with
    | nil => cases h
    | cons u us =>
      dsimp only at h
      rw [Bool.and_eq_true] at h
      rw [List.length_cons, List.length_cons, dBs_len h.2]
theorem clo_nil {cl : List (Str × Addr)} (h : cl.map (·.1) = []) : cl = [] := List.map_eq_nil_iff.mp h
theorem fnE_of {K : PySem.W.Frag} {d : EntD} {dv : List D} (h : fnA K (d.ad K) = d.val []) (c : fnB K d dv = true) : ∃ fd dvs dw, FnE K d dv fd dvs dw := by
  unfold fnB at c
  rw [Bool.and_eq_true] at c
  obtain ⟨kp, c2⟩ := c
  unfold fnA at h
  cases q : K.lookup (d.ad K) with
  | none =>
    rw [q] at c2
    cases c2
  | some o =>
    obtain ⟨oc, od, dt, osl⟩ := o
    rw [q] at c2 h
    cases dt with
    | func fd =>
      obtain ⟨n1, n2, n3, n4, n5, n6, n7, n8, n9, n10, n11, n12, n13, n14, n15⟩ := fd
      unfold EntD.val at h
      simp only [Option.some.injEq, Prod.mk.injEq] at h
      obtain ⟨h1, h2, h3, h4, h5, h6, h7, h8⟩ := h
      have h7 := clo_nil h7
      subst h1 h2 h3 h4 h5 h6 h7 h8
      simp only [Bool.and_eq_true] at c2
      obtain ⟨k1, k3, k4⟩ := c2
      cases dv with
      | nil =>
        unfold dflB at k3
        cases n8 with
        | none =>
          refine ⟨_, [], [], ⟨⟨oc, od, .none, n9, n10, n11, n12, n13, n14, osl, rfl, q, k1, .inl ⟨rfl, rfl⟩, He.kwdB_ok k4⟩, kp⟩, fun _ _ _ _ => .nil, .nil, fun an ps n kn hs => ?_⟩
          intro s us ws zs _ hu hw e
          exact .of_eq (hs _ _ _ _ _ _ us ws zs hu hw e)
        | _ => cases k3
      | cons d0 ds =>
        unfold dflB at k3
        cases n8 with
        | ref T =>
          dsimp only at k3
          split at k3
          · rename_i oc' od' its nn osl' lT
            obtain ⟨vs, r1, r2⟩ := dBs_ok k3
            have lv : vs ≠ [] := fun z => by
              have l1 := dBs_len k3
              rw [z] at r1
              have l2 := r1.length
              rw [l1] at l2
              cases l2
            have ea : its.toList.toArray = its := by simp
            refine ⟨_, vs, its.toList, ⟨⟨oc, od, .ref T, n9, n10, n11, n12, n13, n14, osl, rfl, q, k1, .inr ⟨lv, T, _, its.toList, nn, rfl, lT, by rw [ea], r1⟩, He.kwdB_ok k4⟩, kp⟩, fun R r H e => r2 R r H e, r1, fun an ps n kn hs => ?_⟩
            intro s us ws zs hK hu hw e
            obtain ⟨k, e1, e2⟩ := hs T _ _ _ _ _ _ us ws its.toList zs hu hw (dBs_len k3) e
            rw [ea] at e2
            exact BindsTo.of_defaults rfl (hK _ _ lT) rfl e1 e2
          · cases k3
        | _ => cases k3
    | _ => cases c2

/-! ### exceptions -/
theorem xRest_ok {self : Str} {fld : Option Str} {l : List Stmt} (h : xRest self fld l = true) : XLast self l (fld.map fun f => (f, f)) := by
  unfold xRest at h
  split at h
  · cases fld with
    | none => exact .no
    | some _ => cases h
  · simp only [Bool.and_eq_true, Bool.not_eq_true', decide_eq_true_eq] at h
    obtain ⟨⟨⟨rfl, rfl⟩, rfl⟩, h4⟩ := h
    exact .yes h4
  · cases h
theorem xTxt_ok {self tag T : Str} {fld : Option Str} {l : List Stmt} (h : xTxt self tag T fld l = true) : ∃ (p0 p1 p2 p3 p4 r1 r2 r3 r4 : Pos) (j : Nat) (rest : List Stmt), l = .Expr (.Call (.Attribute (.Call (.Name "super" p0) [] [] p1) "__init__" p2) [] [] p3) p4 :: .Assign [.Attribute (.Name self r1) tag r2] (.Constant (.str T) j r3) r4 :: rest ∧ (p2.endLine == p3.line) = true ∧ XLast self rest (fld.map fun f => (f, f)) := by
  unfold xTxt at h
  split at h
  · simp only [Bool.and_eq_true, decide_eq_true_eq] at h
    obtain ⟨⟨⟨⟨⟨⟨rfl, rfl⟩, rfl⟩, rfl⟩, rfl⟩, h6⟩, h7⟩ := h
    exact ⟨_, _, _, _, _, _, _, _, _, _, _, rfl, h6, xRest_ok h7⟩
  · cases h
theorem xinfo_of {t : Tbl} {K : PySem.W.Frag} {x : XC} {nm : Str} {P : Program} (hn : t.cn.lookup x.c = some nm) (hv : fnA K (x.d.ad K) = x.d.val ["__class__"]) (c : xcB t K x = true) (ok : xcOk t.an x = true) (sh : ShX t.an x) (hP : (P.main.file : Str) = t.file) (hS : (P.main.scope.names.lookup ("super" : Str)).isSome = false) :
    okS x.tx = true ∧ XInfo P K (He.ga K nm) (nmAt t.an x.tag) (mkS x.tx) (x.fld.map (nmAt t.an)) ∧ XfC K (He.ga K nm) ∧ PySem.W.findIn K (.ref (He.ga K nm)) (nmAt t.an x.tag) = some none ∧ ∀ f, x.fld = some f → PySem.W.findIn K (.ref (He.ga K nm)) (nmAt t.an f) = some none := by
  unfold xcB at c
  rw [hn] at c
  simp only [Bool.and_eq_true, decide_eq_true_eq] at c
  obtain ⟨⟨⟨⟨⟨⟨⟨⟨⟨⟨⟨⟨⟨⟨⟨⟨⟨c1, c2⟩, c3⟩, c4⟩, c5⟩, c6⟩, c7⟩, c8⟩, c9⟩, c10⟩, c11⟩, c12⟩, c13⟩, c14⟩, c15⟩, c16⟩, c17⟩, c18⟩ := c
  unfold xcOk at ok
  simp only [Bool.and_eq_true, Bool.not_eq_true'] at ok
  obtain ⟨⟨⟨⟨⟨⟨⟨⟨⟨⟨⟨o1, o2⟩, o3⟩, o4⟩, o5⟩, o6⟩, o7⟩, o8⟩, o9⟩, o10⟩, o11⟩, o12⟩ := ok
  have fl : ∀ f, x.fld = some f → PySem.W.findIn K (.ref (He.ga K nm)) (nmAt t.an f) = some none := fun f e => by
    rw [e] at c8
    exact He.eqO_ok c8
  refine ⟨o1, ?_, xfB_ok c17, He.eqO_ok c7, fl⟩
  obtain ⟨p0, p1, p2, p3, p4, r1, r2, r3, r4, j, rest, eb, hl, xl⟩ := xTxt_ok o2
  obtain ⟨ar, ha⟩ := Option.isSome_iff_exists.mp o3
  have hs : selfOf x.d.params = ar.arg := by unfold selfOf; rw [ha]
  have kd : x.d.scope.kind = .function := by
    split at o7
    · assumption
    · cases o7
  unfold fnA at hv
  cases q : K.lookup (x.d.ad K) with
  | none => rw [q] at c18; cases c18
  | some o =>
    obtain ⟨oc, od, dt, osl⟩ := o
    rw [q] at c18 hv
    cases dt with
    | func fd =>
      obtain ⟨n1, n2, n3, n4, n5, n6, n7, n8, n9, n10, n11, n12, n13, n14, n15⟩ := fd
      unfold EntD.val at hv
      simp only [Option.some.injEq, Prod.mk.injEq] at hv
      obtain ⟨h1, h2, h3, h4, h5, h6, h7, h8⟩ := hv
      subst h1 h2 h3 h4 h5 h6 h8
      rw [eb] at q
      dsimp only at c18
      split at c18
      rotate_left
      · cases c18
      rename_i cn cc cda
      simp only [Bool.and_eq_true, decide_eq_true_eq] at c18
      obtain ⟨⟨⟨⟨d0, d1⟩, d2⟩, d3⟩, d4⟩ := c18
      subst d1
      have e8 : n8 = .none := by
        cases n8 <;> first | rfl | cases d0
      subst e8
      have cell : ∃ cl cld csl, K.lookup cc = some ⟨cl, cld, .cell (some (.ref (He.ga K nm))), csl⟩ := by
        split at d2
        · rename_i D _ e
          have := eq_of_beq d2
          subst this
          exact ⟨_, _, _, e⟩
        · cases d2
      have code : ∃ ccl cdd vs ccs file tf, K.lookup cda = some ⟨ccl, cdd, .fields vs, ccs⟩ ∧ vs[2]? = some (.str file tf) ∧ ((P.main.file : Str) == file) = true := by
        split at d4
        · rename_i vs _ e
          split at d4
          · rename_i f tf e2
            have := of_decide_eq_true d4
            exact ⟨_, _, vs, _, f, tf, e, e2, by rw [hP, this]; exact beq_self_eq_true _⟩
          · cases d4
        · cases d4
      have cls : ∃ cd, PySem.W.clsIn K (He.ga K nm) = some cd ∧ cd.hasDict = true := by
        split at c3
        · rename_i cd e
          exact ⟨cd, e, c3⟩
        · cases c3
      have xc : XCls P K (He.ga K nm) (x.d.ad K) cda cc (xB x.base) (xNew x.base) (xIni x.base) (xBm x.base) (nmAt t.an x.tag) (x.fld.map (nmAt t.an)) :=
        { base := xbase _, cls := cls, over := c4, ini := c5, sa := He.eqO_ok c6, tg := He.eqO_ok c7, fl := fun f e => (by
            cases hf : x.fld with
            | none => rw [hf] at e; cases e
            | some g => rw [hf] at e; cases e; exact fl g hf), sup := He.eqO_ok c9, sub := c10, slf := c11, cell := cell, code := code, th := He.eqO_ok c12, gs := He.eqO_ok c13, top := hS }
      have hfl : ∀ f, x.fld.map (nmAt t.an) = some f → x.d.scope.names.lookup f = some .local ∧ f ≠ nmAt t.an x.tag ∧ f ≠ ar.arg := fun f e => by
        cases hf : x.fld with
        | none => rw [hf] at e; cases e
        | some g =>
          rw [hf] at e o12
          cases e
          simp only [Bool.and_eq_true, decide_eq_true_eq] at o12
          exact ⟨isNm_iff o12.1.1, o12.1.2, by rw [← hs]; exact o12.2⟩
      rw [hs] at xl q o11 o6
      refine ⟨⟨x.d.ad K, cda, cc, xB x.base, xNew x.base, xIni x.base, xBm x.base, x.d.name, x.d.qual, ar.arg, x.d.params, rest, x.d.scope, ar, .none, n9, n10, n11, n14, oc, n12, od, osl, p0, p1, p2, p3, p4, r1, r2, r3, r4, j, xc, q, d3, xl, ha, rfl, fun s e us hu => ?_, isNm_iff o4, isNm_iff o5, isNm_iff o6, kd, o8, o9, fun y hy => ?_, o11, hl, hfl, He.eqO_ok c1, c2⟩, c14, c15, c16, fun f e => (hfl f e).2.1⟩
      · have b := sh n9 n10 n11 n12 (.ref cda) n14 cc (.ref e) us (by rw [hu]; cases x.fld <;> rfl)
        rw [hs, eb] at b
        exact .of_eq b
      · have z := List.all_eq_true.mp o10 y hy
        rw [Bool.not_eq_true', decide_eq_false_iff_not] at z
        exact z
    | _ => cases c18
end OM
set_option Elab.async false
set_option linter.all false
set_option maxRecDepth 100000
set_option maxHeartbeats 1000000
/-! OmLaw: all defs of a law at once; the law's end. -/
namespace OM
open PySem PySem.Spec PyProof.Rows L2

theorem lookN_mem {α : Type} {g : Nat} {d : α} : ∀ {l : List (Nat × α)}, l.lookup g = some d → (g, d) ∈ l
  | [], h => by cases h
  | (b, u) :: r, h => by
    rw [List.lookup_cons] at h
    cases q : (g == b) with
    | true =>
      rw [q] at h
      cases h
      rw [eq_of_beq q]
      exact List.mem_cons_self
    | false =>
      rw [q] at h
      exact List.mem_cons_of_mem _ (lookN_mem h)
theorem nmAt_inj {l : List Str} (h : nmOk l = true) : ∀ x y, nmAt l x = nmAt l y → x = y := by
  unfold nmOk at h
  simp only [Bool.and_eq_true, decide_eq_true_eq, List.all_eq_true] at h
  obtain ⟨nd, hs⟩ := h
  have out : ∀ (i j : Nat) (hi : i < l.length), l[i] ≠ ⟨#[2000000 + j]⟩ := fun i j hi z => by
    have q := hs _ (List.getElem_mem hi)
    rw [z] at q
    simp at q
    omega
  intro x y e
  unfold nmAt at e
  rw [List.getD_eq_getElem?_getD, List.getD_eq_getElem?_getD] at e
  by_cases hx : x < l.length
  · by_cases hy : y < l.length
    · rw [List.getElem?_eq_getElem hx, List.getElem?_eq_getElem hy] at e
      exact (List.getElem_inj nd).mp e
    · rw [List.getElem?_eq_getElem hx, List.getElem?_eq_none (by omega)] at e
      exact absurd e (out x y hx)
  · by_cases hy : y < l.length
    · rw [List.getElem?_eq_none (by omega), List.getElem?_eq_getElem hy] at e
      exact absurd e.symm (out y x hy)
    · rw [List.getElem?_eq_none (by omega), List.getElem?_eq_none (by omega)] at e
      have e : (⟨#[2000000 + x]⟩ : Str) = ⟨#[2000000 + y]⟩ := e
      simp at e
      exact e
theorem at_mem {t : Tbl} {f : Nat} {e : Ent} (h : t.at f = some e) : e ∈ t.es := List.mem_of_find?_eq_some h
theorem clsBs_at {t : Tbl} {K : PySem.W.Frag} {c : Nat} {k : CC} (h : clsBs t K = true) (q : t.cs.lookup c = some k) : ∃ x, t.cn.lookup c = some x ∧ clsB t K x k = true ∧ smB t K x k = true := by
  have z := List.all_eq_true.mp h _ (lookN_mem q)
  dsimp only at z
  split at z
  · rename_i x e
    rw [Bool.and_eq_true] at z
    exact ⟨x, e, z.1, z.2⟩
  · cases z
/-- the def that tells why, from what is looked at -/
theorem why_of {t : Tbl} {K : PySem.W.Frag} {h : Heap} {mg : Str → Option Value} {c : WC} {R : RP} {P : Program} {w : World} {base : Heap} {C : Cxt} (X : K.In h) (G : h.Ns mainGlobals mg) (hw1 : fnA K (c.w.ad K) = c.w.val []) (hw2 : fnA K (c.d.ad K) = c.d.val []) (b : wcB t K c = true) (ok : wcOk t.an c = true) (sh : ShW t.an c)
    (rk : R.K = K) (ran : R.an = nmAt t.an) (ani : ∀ x y, R.an x = R.an y → x = y) (cad : ∀ c x, t.cn.lookup c = some x → R.cadr c = He.ga K x) (xok : ∀ c f, xokOf t.xs c f = true → XfC K (R.cadr c) ∧ PySem.W.findIn K (.ref (R.cadr c)) (R.an f) = some none) (hC : C.why = whyD (xokOf t.xs) (ctOf t.xs) c.tag c.F) :
    mg c.x = some (.ref (c.w.ad K)) ∧ WhyOk R C P w K mg base c.x (c.w.ad K) := by
  unfold wcB at b
  simp only [Bool.and_eq_true] at b
  obtain ⟨⟨⟨⟨⟨⟨⟨b1, b2⟩, b3⟩, b4⟩, b5⟩, b6⟩, b7⟩, b8⟩ := b
  unfold wcOk at ok
  simp only [Bool.and_eq_true, Bool.not_eq_true', Bool.or_eq_true, decide_eq_true_eq] at ok
  obtain ⟨⟨⟨⟨⟨⟨⟨⟨⟨⟨⟨⟨⟨⟨⟨⟨⟨⟨⟨⟨⟨⟨⟨o1, o2⟩, o3⟩, o4⟩, o5⟩, o6⟩, o7⟩, o8⟩, o9⟩, o10⟩, o11⟩, o12⟩, o13⟩, o14⟩, o15⟩, o16⟩, o17⟩, o18⟩, o19⟩, o20⟩, o21⟩, o22⟩, o23⟩, o24⟩ := ok
  have glo : ∀ {x : Str} {a : Addr}, He.eqO (PySem.W.nsIn K mainGlobals x) (some (some (.ref a))) = true → mg x = some (.ref a) := fun e => PySem.W.mg_of X G (He.eqO_ok e)
  obtain ⟨fdw, _, _, Fw⟩ := fnE_of hw1 b1
  obtain ⟨fdd, dvs, dw, Fd⟩ := fnE_of hw2 b2
  have dv0 : dvs = [] := by
    have := Fd.rep (R.h []) [] (fun _ => none) rk
    cases this
    rfl
  subst dv0
  have kp := Fw.fn.kp
  obtain ⟨oc, od, dV, kV, doc, pm, av, cdv, ct, osl, e1, lk, hcd, hD, hK⟩ := Fw.fn.ex
  have dV0 : dV = .none := by
    rcases hD with ⟨_, e⟩ | ⟨ne, T, o, its, n, _, _, _, v⟩
    · exact e
    · exact absurd (by have := Fw.rep (R.h []) [] (fun _ => none) rk; cases this; rfl) ne
  subst dV0
  subst e1
  have kd : c.w.scope.kind = .function := by
    split at o7
    · assumption
    · cases o7
  have nd : [c.a, c.e].Nodup := by simpa using o10
  have par : c.w.scope.names.lookup c.a = some .local ∨ c.w.scope.names.lookup c.a = some .cell := o11.elim (fun z => .inl (isNm_iff z)) fun z => .inr (isNm_iff z)
  have Sg : FnScope [c.a, c.e] [c.a] c.w.scope := ⟨kd, o8, o9, nd, rfl, fun x hx => by
    have e : x = c.a := by simpa using hx
    subst e
    exact par, fun y hy => by
      have z := List.all_eq_true.mp o12 y hy
      rw [Bool.not_eq_true', decide_eq_false_iff_not] at z
      exact z⟩
  have tl : Teller R K t.an (xokOf t.xs) c.F (c.d.ad K) := by
    refine ⟨⟨c.d.name, c.d.qual, c.d.params, c.d.body, c.d.scope, fdd, c.N, c.p0, Fd.fn, o4, o5, fun s u => ?_⟩, Fd.fn.kp, ran, ani, rk, xok⟩
    obtain ⟨oc, od, dV, kV, doc, pm, av, cdv, ct, osl, e1, lk, hcd, hD, hK⟩ := Fd.fn.ex
    subst e1
    rcases hD with ⟨_, rfl⟩ | ⟨ne, _⟩
    · exact .of_eq (sh.hd kV doc pm av cdv ct u)
    · exact absurd rfl ne
  refine ⟨glo b3, ⟨kp, c.a, c.w.params, c.w.body, c.w.scope, .none, kV, doc, pm, cdv, ct, oc, av, od, osl, [c.a, c.e], ?_, ?_, ?_, Sg, rfl, par.elim .inl fun z => .inr (.inl z), (noDbg_iff o18).1, (noDbg_iff o23).1, (noDbg_iff o23).2, ?_⟩⟩
  · rw [o2, o3] at lk
    exact lk
  · rw [← o3]
    exact hcd
  · intro s us _ hl
    rw [List.append_nil] at hl ⊢
    match us, hl with
    | [u], _ =>
      have := sh.hw kV doc pm av cdv ct u
      rw [o2, o3] at this
      exact .of_eq this
  · intro Xc q e1 e2 e3 e4 e5 room
    subst e3
    subst e4
    exact gives_why (c1 := He.ga Xc.K c.x1) (c2 := He.ga Xc.K c.x2) (c3 := He.ga Xc.K c.x3) (lv := C.lvl) tl (whyTxtB_ok o1) rfl nd hC (fun k hk => by
      unfold ctOf ctE xlOf at hk
      rw [List.any_map] at hk
      obtain ⟨x, mx, ex⟩ := List.any_eq_true.mp hk
      dsimp only [Function.comp] at ex
      have ex := eq_of_beq ex
      have z := List.all_eq_true.mp b8 x mx
      rw [ex] at z
      split at z
      · rename_i nm en
        rw [cad k nm en]
        exact of_decide_eq_true z
      · cases z) ⟨isNm_iff o13, (noDbg_iff o19).1, glo b5⟩ ⟨isNm_iff o14, (noDbg_iff o20).1, glo b6⟩ ⟨isNm_iff o15, (noDbg_iff o21).1, glo b7⟩ ⟨isNm_iff o16, (noDbg_iff o22).1, glo b4⟩ (isNm_iff o17) (noDbg_iff o24).1 (noDbg_iff o24).2 room
/-- what stands behind the top -/
structure Facts (t : Tbl) (K : PySem.W.Frag) (mg : Str → Option Value) (P : Program) (R : RP) : Prop where
  RK : R.K = K
  Ran : R.an = nmAt t.an
  ani : ∀ x y, R.an x = R.an y → x = y
  pin : R.pin = []
  tabs : R.tabs = lamTs t K
  lam : ((lamCs t K).map (·.2)).Nodup
  ent : ∀ f e, t.at f = some e → ∃ fd dvs dw, FnE K e.d e.F.dv fd dvs dw ∧ R.fadr f = e.d.ad K ∧ chkD t.sta e.N e.F false e.lam e.d.body e.d.scope = true ∧ (∀ q ∈ e.shp, Shape K (nmAt t.an) fd e.F.ps dw q.1 q.2) ∧ (e.lam = true → fd.code = .ref (codeAd K (e.d.ad K)))
  gf : ∀ f x, t.sta.gf f = some x → mg x = some (.ref (R.fadr f))
  cn : ∀ c x, t.sta.cn c = some x → mg x = some (.ref (R.cadr c))
  mth : ∀ c m g, t.P.cl.mth c m = some g → (∃ F, t.sta.fd g = some F) ∧ Cls K (R.cadr c) ∧ Meth K (R.cadr c) (R.an m) (R.fadr g)
  smt : ∀ c m g, t.P.cl.smt c m = some g → (∃ F, t.sta.fd g = some F) ∧ SMet K (R.cadr c) (R.an m) (R.fadr g)
  prp : ∀ c f g, t.P.cl.prp c f = some g → (∃ F, t.sta.fd g = some F) ∧ (1, ([] : List Nat)) ∈ t.sta.shp g ∧ Cls K (R.cadr c) ∧ ∃ p, PropOf K (R.cadr c) (R.an f) p (R.fadr g)
  con : ∀ c f d, t.P.cl.con c f = some d → Cls K (R.cadr c) ∧ ∃ v u, Con K (R.cadr c) (R.an f) v u ∧ ∀ hid r H, Rep (R.h hid) r H d v
  fok : ∀ c f, t.P.cl.fok c f = true → Cls K (R.cadr c) ∧ NoAttr K (R.cadr c) (R.an f)
  ini : ∀ c g, t.P.cl.ini c = some g → (∃ F, t.sta.fd g = some F) ∧ Mk K (R.cadr c) (R.fadr g)
  glo : ∀ g d, t.P.gl g = some d → ∃ u v, mg (nmAt t.gn g) = some u ∧ RelV v u ∧ ∀ hid r H, Rep (R.h hid) r H d v
  bl : ∀ x ∈ t.bl, mg x = none
  exn : ∀ c tag tx fld, t.P.cl.exn c = some (tag, tx, fld) → okS tx = true ∧ XInfo P K (R.cadr c) (R.an tag) (mkS tx) (fld.map R.an)
  xok : ∀ c f, t.P.cl.xok c f = true → XfC K (R.cadr c) ∧ PySem.W.findIn K (.ref (R.cadr c)) (R.an f) = some none
  why : ∀ x, t.sta.why = some x → ∃ g, mg x = some (.ref g) ∧ ∀ (C : Cxt) (w : World) (base : Heap), C.why = t.P.why → WhyOk R C P w K mg base x g
def rpOf (t : Tbl) (K : PySem.W.Frag) : RP := ⟨K, adOf t K, fun c => match t.cn.lookup c with
  | some x => He.ga K x
  | none => 0, nmAt t.an, [], [], lamTs t K⟩
theorem map_at {α β : Type} {f g : α → β} {l : List α} (h : l.map f = l.map g) {i : Nat} {a : α} (e : l[i]? = some a) : f a = g a := by
  have := congrArg (·[i]?) h
  simp only [List.getElem?_map, e, Option.map_some, Option.some.injEq] at this
  exact this
theorem facts_of {t : Tbl} {K0 K : PySem.W.Frag} {h : Heap} {mg : Str → Option Value} {P : Program} (X : K.In h) (G : h.Ns mainGlobals mg) (c : obsO t K0 K = valO t) (ok : tblOk t = true) (sh : ShA t.an t.es) (shx : ShXs t.an t.xs) (shw : ShWs t.an t.why) (hP : (P.main.file : Str) = t.file) (hS : (P.main.scope.names.lookup ("super" : Str)).isSome = false) : Facts t K mg P (rpOf t K) := by
  have exs := congrArg (fun z : AlO => z.1) c
  have fns := congrArg (fun z : AlO => z.2) c
  unfold obsO valO at exs fns
  dsimp only at exs fns
  simp only [Bool.and_eq_true] at exs
  obtain ⟨⟨⟨ex, exx⟩, exw⟩, exl⟩ := exs
  have lens : (t.es.map fun e => fnA K (e.d.ad K)).length = (t.es.map fun e => e.d.val []).length := by simp
  obtain ⟨fn, fns⟩ := List.append_inj fns lens
  obtain ⟨fnx, fnw⟩ := List.append_inj fns (by simp)
  unfold tblOk at ok
  simp only [Bool.and_eq_true] at ok
  obtain ⟨⟨⟨ok1, ok2⟩, ok3⟩, ok4⟩ := ok
  unfold Tbl.ex at ex
  simp only [Bool.and_eq_true] at ex
  obtain ⟨⟨⟨⟨ex1, ex2⟩, ex3⟩, ex4⟩, ex5⟩ := ex
  unfold lamB at exl
  simp only [Bool.and_eq_true, decide_eq_true_eq] at exl
  obtain ⟨⟨l1, l2⟩, l3⟩ := exl
  have ok : nmOk t.an = true := ok1
  have cad : ∀ c x, t.cn.lookup c = some x → (rpOf t K).cadr c = He.ga K x := fun c x e => by
    show (match t.cn.lookup c with | some x => He.ga K x | none => 0) = _
    rw [e]
  have cls : ∀ c k, t.cs.lookup c = some k → ∃ x, t.cn.lookup c = some x ∧ clsB t K x k = true ∧ smB t K x k = true := fun c k e => clsBs_at ex4 e
  have clsC : ∀ {k : CC} {x : Str}, clsB t K x k = true → (k.ms.isEmpty && k.ps.isEmpty && k.cs.isEmpty && k.fs.isEmpty) = false → Cls K (He.ga K x) := fun {k x} h n => by
    unfold clsB at h
    simp only [Bool.and_eq_true, Bool.or_eq_true] at h
    rcases h.1.1.1.1.1.2 with z | z
    · exact He.cls_ok z
    · rw [show (k.ms.isEmpty && k.ps.isEmpty && k.cs.isEmpty && k.fs.isEmpty) = true from by simp only [Bool.and_eq_true]; exact z] at n
      cases n
  have fdS : ∀ {g}, (t.at g).isSome = true → ∃ F, t.sta.fd g = some F := fun {g} h => by
    obtain ⟨e, q⟩ := Option.isSome_iff_exists.mp h
    exact ⟨e.F, by show (t.at g).map (·.F) = _; rw [q]; rfl⟩
  have xs_at : ∀ x ∈ t.xs, ∃ nm, t.cn.lookup x.c = some nm ∧ (okS x.tx = true ∧ XInfo P K (He.ga K nm) (nmAt t.an x.tag) (mkS x.tx) (x.fld.map (nmAt t.an)) ∧ XfC K (He.ga K nm) ∧ PySem.W.findIn K (.ref (He.ga K nm)) (nmAt t.an x.tag) = some none ∧ ∀ f, x.fld = some f → PySem.W.findIn K (.ref (He.ga K nm)) (nmAt t.an f) = some none) := fun x m => by
    obtain ⟨i, hi, e⟩ := List.getElem_of_mem m
    have e : t.xs[i]? = some x := by rw [List.getElem?_eq_getElem hi, e]
    have b := List.all_eq_true.mp exx x m
    cases en : t.cn.lookup x.c with
    | none => unfold xcB at b; rw [en] at b; cases b
    | some nm => exact ⟨nm, rfl, xinfo_of en (map_at fnx e) b (List.all_eq_true.mp ok3 x m) (shx.get m) hP hS⟩
  have hxok : ∀ c f, xokOf t.xs c f = true → XfC K ((rpOf t K).cadr c) ∧ PySem.W.findIn K (.ref ((rpOf t K).cadr c)) ((rpOf t K).an f) = some none := fun c f q => by
    unfold xokOf xokE xlOf at q
    rw [List.any_map] at q
    obtain ⟨x, m, e⟩ := List.any_eq_true.mp q
    dsimp only [Function.comp] at e
    rw [Bool.and_eq_true, Bool.or_eq_true] at e
    obtain ⟨e1, e2⟩ := e
    have e1 := eq_of_beq e1
    subst e1
    obtain ⟨nm, hn, _, _, x1, x2, x3⟩ := xs_at x m
    rw [cad _ nm hn]
    rcases e2 with e2 | e2
    · have e2 := eq_of_beq e2
      subst e2
      exact ⟨x1, x2⟩
    · exact ⟨x1, x3 f (eq_of_beq e2)⟩
  refine ⟨rfl, rfl, nmAt_inj ok, rfl, rfl, l2, fun f e q => ?_, fun f x q => ?_, fun c x q => ?_, fun c m g q => ?_, fun c m g q => ?_, fun c f g q => ?_, fun c f d q => ?_, fun c f q => ?_, fun c g q => ?_, fun g d q => ?_, fun x m => ?_, fun c tag tx fld q => ?_, fun c f q => hxok c f q, fun x q => ?_⟩
  · have me : e ∈ t.es := at_mem q
    obtain ⟨ix, hix, eix⟩ := List.getElem_of_mem me
    have qx : t.es[ix]? = some e := by rw [List.getElem?_eq_getElem hix, eix]
    have b := List.all_eq_true.mp ex1 e me
    unfold entB at b
    rw [Bool.and_eq_true] at b
    obtain ⟨fd, dvs, dw, F⟩ := fnE_of (map_at fn qx) b.1
    refine ⟨fd, dvs, dw, F, by show adOf t K f = _; unfold adOf; rw [q], List.all_eq_true.mp ok2 e me, fun p hp => F.sh _ _ _ _ ((sh.get me).get hp), fun hl => ?_⟩
    have z := List.all_eq_true.mp l3 e me
    rw [hl] at z
    obtain ⟨oc, od, dV, kV, doc, pm, av, cdv, ct, osl, e1, lk, _⟩ := F.fn.ex
    unfold codeAd
    rw [lk] at z ⊢
    simp only [Bool.not_true, Bool.false_or] at z
    have key : ∀ cv : Value, (match cv with
      | .ref _ => true
      | _ => false) = true → cv = .ref (match cv with
      | .ref c => c
      | _ => 0) := fun cv h => by cases cv <;> first | rfl | cases h
    exact key _ z
  · have q : (t.at f).bind (·.gnm) = some x := q
    cases e : t.at f with
    | none => rw [e] at q; cases q
    | some en =>
      rw [e] at q
      have q : en.gnm = some x := q
      have h1 := List.all_eq_true.mp ex1 en (at_mem e)
      unfold entB at h1
      rw [q] at h1
      simp only [Bool.and_eq_true] at h1
      show mg x = some (.ref (adOf t K f))
      unfold adOf
      rw [e]
      exact PySem.W.mg_of X G (He.eqO_ok h1.2)
  · have q : t.cn.lookup c = some x := q
    rw [cad c x q]
    exact PySem.W.mg_of X G (He.eqO_ok (List.all_eq_true.mp ex5 _ (lookN_mem q)))
  · have q : (t.cs.lookup c).bind (fun k => k.ms.lookup m) = some g := q
    cases e : t.cs.lookup c with
    | none => rw [e] at q; cases q
    | some k =>
      rw [e] at q
      have q : k.ms.lookup m = some g := q
      have mm := lookN_mem q
      obtain ⟨x, ex', hb, hsb⟩ := cls c k e
      have hC : Cls K (He.ga K x) := clsC hb (by cases z : k.ms with | nil => rw [z] at mm; cases mm | cons _ _ => rfl)
      unfold clsB at hb
      simp only [Bool.and_eq_true] at hb
      have h1 := List.all_eq_true.mp hb.1.1.1.1.2 _ mm
      simp only [Bool.and_eq_true] at h1
      obtain ⟨⟨⟨a1, a2⟩, a3⟩, a4⟩ := h1
      rw [cad c x ex']
      exact ⟨fdS a1, hC, He.eqO_ok a2, a3, a4⟩
  · have q : (t.cs.lookup c).bind (fun k => k.sms.lookup m) = some g := q
    cases e : t.cs.lookup c with
    | none => rw [e] at q; cases q
    | some k =>
      rw [e] at q
      have q : k.sms.lookup m = some g := q
      obtain ⟨x, ex', hb, hsb⟩ := cls c k e
      obtain ⟨a1, a2⟩ := smB_at hsb q (lookN_mem q)
      rw [cad c x ex']
      exact ⟨fdS a1, a2⟩
  · have q : (t.cs.lookup c).bind (fun k => k.ps.lookup f) = some g := q
    cases e : t.cs.lookup c with
    | none => rw [e] at q; cases q
    | some k =>
      rw [e] at q
      have q : k.ps.lookup f = some g := q
      have mm := lookN_mem q
      obtain ⟨x, ex', hb, hsb⟩ := cls c k e
      have hC : Cls K (He.ga K x) := clsC hb (by cases z : k.ps with | nil => rw [z] at mm; cases mm | cons _ _ => simp)
      unfold clsB at hb
      simp only [Bool.and_eq_true] at hb
      have h1 := List.all_eq_true.mp hb.1.1.1.2 _ mm
      simp only [Bool.and_eq_true, decide_eq_true_eq] at h1
      obtain ⟨⟨⟨⟨⟨a1, a0⟩, a2⟩, a3⟩, a4⟩, a5⟩ := h1
      rw [cad c x ex']
      refine ⟨fdS a1, a0, hC, _, He.eqO_ok a2, He.eqO_ok a3, a4, ?_⟩
      split at a5
      · rename_i g' rest e5
        have e6 : g' = adOf t K g := of_decide_eq_true a5
        rw [e6] at e5
        exact ⟨rest, e5⟩
      · cases a5
  · have q : (t.cs.lookup c).bind (fun k => k.cs.lookup f) = some d := q
    cases e : t.cs.lookup c with
    | none => rw [e] at q; cases q
    | some k =>
      rw [e] at q
      have q : k.cs.lookup f = some d := q
      have mm := lookN_mem q
      obtain ⟨x, ex', hb, hsb⟩ := cls c k e
      have hC : Cls K (He.ga K x) := clsC hb (by cases z : k.cs with | nil => rw [z] at mm; cases mm | cons _ _ => simp)
      unfold clsB at hb
      simp only [Bool.and_eq_true] at hb
      have h1 := List.all_eq_true.mp hb.1.1.2 _ mm
      dsimp only at h1
      split at h1
      · rename_i u e5
        simp only [Bool.and_eq_true, Bool.not_eq_true'] at h1
        obtain ⟨v, b1, b2⟩ := dB_ok h1.1.1
        rw [cad c x ex']
        exact ⟨hC, v, u, ⟨e5, b1, He.eqO_ok h1.1.2, h1.2⟩, fun hid r H => b2 _ r H rfl⟩
      · cases h1
  · have q : ((t.cs.lookup c).map fun k => k.fs.contains f).getD false = true := q
    cases e : t.cs.lookup c with
    | none => rw [e] at q; cases q
    | some k =>
      rw [e] at q
      have q : k.fs.contains f = true := q
      have mm := List.contains_iff_mem.mp q
      obtain ⟨x, ex', hb, hsb⟩ := cls c k e
      have hC : Cls K (He.ga K x) := clsC hb (by cases z : k.fs with | nil => rw [z] at mm; cases mm | cons _ _ => simp)
      unfold clsB at hb
      simp only [Bool.and_eq_true] at hb
      rw [cad c x ex']
      exact ⟨hC, He.eqO_ok (List.all_eq_true.mp hb.1.2 _ mm)⟩
  · have q : (t.cs.lookup c).bind (·.ini) = some g := q
    cases e : t.cs.lookup c with
    | none => rw [e] at q; cases q
    | some k =>
      rw [e] at q
      have q : k.ini = some g := q
      obtain ⟨x, ex', hb, hsb⟩ := cls c k e
      unfold clsB at hb
      rw [q] at hb
      simp only [Bool.and_eq_true] at hb
      obtain ⟨⟨⟨⟨a1, a2⟩, a3⟩, a4⟩, a5⟩ := hb.2
      rw [cad c x ex']
      exact ⟨fdS a1, a2, He.eqO_ok a3, a4, a5⟩
  · have q : t.gl.lookup g = some d := q
    have m : (g, d) ∈ t.gl := lookN_mem q
    have z := List.all_eq_true.mp ex3 _ m
    dsimp only at z
    split at z
    · rename_i u e
      obtain ⟨v, a, b⟩ := dB_ok z
      exact ⟨u, v, PySem.W.mg_of X G e, a, fun hid r H => b _ r H rfl⟩
    · cases z
  · exact PySem.W.mg_none_of X G (He.eqO_ok (List.all_eq_true.mp ex2 x m))
  · have q : (xlOf t.xs).lookup c = some (tag, tx, fld) := q
    obtain ⟨x, m, e⟩ := List.mem_map.mp (lookN_mem q)
    cases e
    obtain ⟨nm, hn, x0, x1, _⟩ := xs_at x m
    rw [cad _ nm hn]
    exact ⟨x0, x1⟩
  · have q : t.why.map (·.x) = some x := q
    cases e : t.why with
    | none => rw [e] at q; cases q
    | some wc =>
      rw [e] at q exw ok4 shw fnw
      cases q
      have f1 := congrArg (·[0]?) fnw
      have f2 := congrArg (·[1]?) fnw
      simp only [List.getElem?_cons_zero, List.getElem?_cons_succ, Option.some.injEq] at f1 f2
      refine ⟨wc.w.ad K, PySem.W.mg_of X G (He.eqO_ok ?_), fun C w base hC => (why_of (w := w) (base := base) X G f1 f2 exw ok4 shw rfl rfl (nmAt_inj ok) cad hxok (by rw [hC]; show (match t.why with | some w => _ | none => _) = _; rw [e]; rfl)).2⟩
      unfold wcB at exw
      simp only [Bool.and_eq_true] at exw
      exact exw.1.1.1.1.1.2
section
variable {t : Tbl} {K : PySem.W.Frag} {mg : Str → Option Value} {P : Program} {w : World} {base : Heap} {R : RP}
theorem wld_of (fc : Facts t K mg P R) {k : Nat} (ih : ∀ f e, t.at f = some e → ∀ fd dvs dw, FnE K e.d e.F.dv fd dvs dw → FnOk P w K mg base (L2.CX P w) (4 * k) (e.d.ad K) fd (e.F.ps.map (nmAt t.an)) (spOf R e.F.ps.length (callD t.P k f))) : Wld R t.sta (cxt t.P k) P w K mg base := by
  refine ⟨fc.Ran, fc.ani, fun f F hf => ?_, fc.gf, fc.cn, fc.mth, fun c m g q => ?_, fun c => rfl, fc.smt, fun c m => rfl, fc.prp, fc.con, fc.fok, fc.ini, fun f => ?_, fc.glo, fc.bl, fc.exn, fc.xok, fun x q => ?_⟩
  · have hf : (t.at f).map (·.F) = some F := hf
    cases q : t.at f with
    | none => rw [q] at hf; cases hf
    | some e =>
      rw [q] at hf
      cases hf
      obtain ⟨fd, dvs, dw, h2, ha, h4, h5, h6⟩ := fc.ent f e q
      rw [ha]
      refine ⟨fd, dvs, dw, h2.fn.kp, ih f e q fd dvs dw h2, fun hid r H => h2.rep (R.h hid) r H fc.RK, h2.vals, fun p hp => ?_⟩
      have hp : p ∈ ((t.at f).map (·.shp)).getD [] := hp
      rw [q] at hp
      exact h5 p hp
  · have q : (t.cs.lookup c).bind (fun k => k.ms.lookup m) = some g := q
    cases e : t.cs.lookup c with
    | none => rw [e] at q; cases q
    | some k =>
      rw [e] at q
      exact List.mem_filterMap.mpr ⟨_, lookN_mem e, q⟩
  · show ((t.es.map fun e => (e.id, e.F)).lookup f).map _ = ((t.at f).map (·.F)).map _
    rw [← find_look]
    rfl
  · obtain ⟨g, m, y⟩ := fc.why x q
    exact ⟨g, m, y _ w base rfl⟩
theorem nodup_at {α β : Type} {f : α → β} : ∀ {l : List α}, (l.map f).Nodup → ∀ a ∈ l, ∀ b ∈ l, f a = f b → a = b
  | [], _, a, ha, _, _, _ => by cases ha
  | x :: l, h, a, ha, b, hb, e => by
    rw [List.map_cons, List.nodup_cons] at h
    rcases List.mem_cons.mp ha with ea | ha2
    · rcases List.mem_cons.mp hb with eb | hb2
      · exact ea.trans eb.symm
      · subst ea
        exact absurd (e ▸ List.mem_map_of_mem hb2) h.1
    · rcases List.mem_cons.mp hb with eb | hb2
      · subst eb
        exact absurd (e ▸ List.mem_map_of_mem ha2) h.1
      · exact nodup_at h.2 a ha2 b hb2 e
theorem all_ok (fc : Facts t K mg P R) (tb : ∀ p ∈ lamCs t K, LamX.TabB base mg p.1 p.2) : ∀ (k f : Nat) (e : Ent), t.at f = some e → ∀ fd dvs dw, FnE K e.d e.F.dv fd dvs dw →
    FnOk P w K mg base (L2.CX P w) (4 * k) (e.d.ad K) fd (e.F.ps.map (nmAt t.an)) (spOf R e.F.ps.length (callD t.P k f))
  | 0, f, e, q, fd, dvs, dw, F => by
    refine ⟨fun vs H Q E ⟨hid, r, S, ds, rs, _, _, _, hs⟩ => False.elim hs, fun A outer s H args us vs Q E _ _ _ _ ⟨hid, r, S, ds, rs, _, _, _, hs⟩ => False.elim hs⟩
  | k + 1, f, e, q, fd, dvs, dw, F => by
    obtain ⟨_, _, _, h2, _, h4, _, h6⟩ := fc.ent f e q
    have me : e ∈ t.es := at_mem q
    have g := def_ok (P := P) (w := w) (mg := mg) (base := base) (k := 4 * k + 3) (C := cxt t.P k) fc.RK.symm fc.pin F.fn h4 (wld_of fc (all_ok fc tb k)) (Nat.le_refl _) (fun hl => by
      have ml : e ∈ t.es.filter (·.lam) := List.mem_filter.mpr ⟨me, hl⟩
      have mc : (codeAd K (e.d.ad K), tabAd K (codeAd K (e.d.ad K))) ∈ lamCs t K := List.mem_map.mpr ⟨e, ml, rfl⟩
      refine ⟨_, _, ?_, tb _ mc, ?_, fun p hp hq => ?_⟩
      · have h7 := h6 hl
        obtain ⟨oc, od, dV, kV, doc, pm, av, cdv, ct, osl, e1, lk, _⟩ := F.fn.ex
        obtain ⟨oc', od', dV', kV', doc', pm', av', cdv', ct', osl', e1', lk', _⟩ := h2.fn.ex
        rw [lk] at lk'
        cases lk'
        exact h7
      · rw [fc.tabs]
        exact List.mem_map.mpr ⟨e, ml, rfl⟩
      · rw [fc.tabs] at hp
        obtain ⟨e', m', rfl⟩ := List.mem_map.mp hp
        have nd := fc.lam
        unfold lamCs at nd
        rw [List.map_map] at nd
        rw [nodup_at nd e' m' e ml hq])
    refine g.imp fun vs H Q E ⟨hid, r, S, ds, rs, a, b, c, hs⟩ => ⟨hid, r, S, ds, rs, a, b, c, ?_⟩
    have ef : t.P.fd f = some e.F := by show (t.es.map fun e => (e.id, e.F)).lookup f = _; rw [← find_look]; show (t.at f).map _ = _; rw [q]; rfl
    unfold callD at hs
    rw [ef] at hs
    exact hs
end

/-! ### the law -/
theorem cx_end {P : Program} {w : World} {H : Hp} {s : Shared} {e : Value} {s' : Shared} (h : L2.CX P w [] H s (fun _ _ _ => False) e s') : False := by
  unfold L2.CX at h
  simp only [and_false, exists_false] at h
theorem codeHdB_ok {K : PySem.W.Frag} {h : Heap} {c P : Addr} (X : K.In h) (b : codeHdB K c P = true) : PySem.W.CodeHd h c P := by
  unfold codeHdB at b
  split at b
  · rename_i ty od vs sl e
    simp only [Bool.and_eq_true, decide_eq_true_eq] at b
    obtain ⟨⟨⟨⟨⟨⟨⟨b1, b2⟩, b3⟩, b4⟩, b5⟩, b6⟩, b7⟩, b8⟩ := b
    subst b1
    split at b4
    · rename_i f tf e4
      split at b5
      · rename_i i ti e5
        split at b6
        · rename_i bb e6
          split at b7
          · rename_i j tj e7
            exact ⟨_, vs, f, tf, i, ti, bb, j, tj, X _ _ e, rfl, rfl, b2, b3, e4, e5, e6, e7, b8⟩
          · cases b7
        · cases b6
      · cases b5
    · cases b4
  · cases b
theorem isTab_ok {K : PySem.W.Frag} {h : Heap} {P : Addr} (X : K.In h) (b : isTab (K.lookup P) = true) : h.get? P = some { cls := .none, data := .fields #[] } := by
  unfold isTab at b
  split at b
  · rename_i vs sl e
    rw [Bool.and_eq_true] at b
    have e1 : vs = #[] := by simpa using b.1
    have e2 : sl = #[] := by simpa using b.2
    subst e1
    subst e2
    exact X _ _ e
  · cases b
/-- the law's def is the n-th entry; the evaluator says True for every script -/
theorem law_end {t : Tbl} {K0 : PySem.W.Frag} {h : Heap} {mg : Str → Option Value} {l : PySem.W.OpenLaw} {w : World} {fa : Addr} {m n k : Nat} {e : Ent} {x y : Str} (X0 : K0.In h) (G : h.Ns mainGlobals mg) (c : obsOK t K0 = valO t) (ok : tblOk t = true) (sh : ShA t.an t.es) (shx : ShXs t.an t.xs) (shw : ShWs t.an t.why)
    (hP : (l.prog.main.file : Str) = t.file) (hS : (l.prog.main.scope.names.lookup ("super" : Str)).isSome = false)
    (he : t.at n = some e) (hy : e.gnm = some y) (hx : e.F.ps.map (nmAt t.an) = [x]) (hdv : e.F.dv = []) (hsh : (1, ([] : List Nat)) ∈ e.shp) (hmg : mg y = some (.ref fa)) (math : ∀ ns : List Int, ns.length ≤ m → (∀ z ∈ ns, Builtin.Int.intBits z ≤ 1048576) → ∃ S, callD t.P k n [.frz ns] [] [] = .ok (.bl true) S) :
    ∃ K : PySem.W.Frag, K.In h ∧ LamX.LawAtS l w K (L2.CX l.prog w) (4 * k) m x mg fa h := by
  have X : (less K0 ((lamCs t K0).map (·.2))).In h := fun a o z => X0 a o (less_at z)
  refine ⟨_, X, ?_⟩
  unfold obsOK at c
  generalize less K0 ((lamCs t K0).map (·.2)) = K at X c
  have fc := facts_of X G c ok sh shx shw hP hS
  have exs := congrArg (fun z : AlO => z.1) c
  unfold obsO valO at exs
  dsimp only at exs
  simp only [Bool.and_eq_true] at exs
  have exl := exs.2
  unfold lamB at exl
  simp only [Bool.and_eq_true, decide_eq_true_eq] at exl
  obtain ⟨⟨l1, l2⟩, l3⟩ := exl
  have lc : ∀ p ∈ lamCs t K, codeHdB K p.1 p.2 = true ∧ isTab (K0.lookup p.2) = true ∧ K.lookup p.2 = none := fun p hp => by
    have z := List.all_eq_true.mp l1 p hp
    simp only [Bool.and_eq_true] at z
    exact ⟨z.1.1, z.1.2, by simpa using z.2⟩
  obtain ⟨fd, dvs, dw, h2, ha, h4, h5, h6⟩ := fc.ent n e he
  have ea : e.d.ad K = fa := by
    have q := fc.gf n y (by show (t.at n).bind (·.gnm) = _; rw [he]; exact hy)
    rw [hmg, ha] at q
    cases q
    rfl
  obtain ⟨p, hp⟩ : ∃ p, e.F.ps = [p] := by
    cases q : e.F.ps with
    | nil => rw [q] at hx; cases hx
    | cons p l =>
      cases l with
      | nil => exact ⟨p, rfl⟩
      | cons _ _ => rw [q] at hx; cases hx
  have hpx : nmAt t.an p = x := by rw [hp] at hx; exact List.head_eq_of_cons_eq hx
  refine ⟨fd, lamCs t K, spOf (rpOf t K) 1 (callD t.P k n), fun p hp => isTab_ok X0 (lc p hp).2.1, fun p hp => (lc p hp).2.2, fun p hp => codeHdB_ok X (lc p hp).1, fun s u => ?_, fun H a ns hl hbits hH hS => ?_, fun base _ _ tb => ?_⟩
  · have b := (sh.get (at_mem he)).get hsh
    rw [hp, hdv] at b
    rw [← hpx]
    obtain ⟨oc, od, dV, kV, doc, pm, av, cdv, ct, osl, e1, lk, hcd, hD, hK⟩ := h2.fn.ex
    have dv0 : dvs = [] := by
      have := h2.rep (rpOf t K) [] (fun _ => none) rfl
      rw [hdv] at this
      cases this
      rfl
    subst e1
    rcases hD with ⟨_, rfl⟩ | ⟨ne, _⟩
    · exact .of_eq (b kV doc pm av cdv ct [u] [] [u] rfl rfl rfl)
    · exact absurd dv0 ne
  · refine ⟨[], [], [], [.frz ns], [], rfl, ⟨rfl, List.nodup_nil, fun n c q => by simp at q, fun m hm => by simp at hm, fun a m => by simp at m, fun p hp => ?_⟩, .cons (.frz ?_) .nil, ?_⟩
    · obtain ⟨e', m', rfl⟩ := List.mem_map.mp (show p ∈ lamTs t K from hp)
      exact LamX.TabS.nil (hH _ (List.mem_map.mpr ⟨e', m', rfl⟩))
    · rcases hS with hS | hS
      · exact .inl ⟨hS, by simp, by simp⟩
      · exact .inr hS
    · obtain ⟨S, es⟩ := math ns hl hbits
      rw [es]
      intro r' H' v _ _ q
      cases q
      rfl
  · have g := all_ok (P := l.prog) (w := w) (base := base) fc tb k n e he fd dvs dw h2
    rw [hp, ea] at g
    rw [← hpx]
    exact g
end OM
set_option Elab.async false
set_option linter.all false
set_option maxRecDepth 100000
set_option maxHeartbeats 1000000
/-! OmMath: what the laws' own helpers do: drawing numbers, comparing. -/
namespace OM

/-! ### drawing -/
def B_pull : List CS := [
  .cond (.bop true [.cmp .eq (.idx (.slot 0) (.cst (.int 2))) (.cst (.int 0)), .cmp .lt (.idx (.slot 0) (.cst (.int 1))) (.bcall false .len [.idx (.slot 0) (.cst (.int 0))])]) [
    .set 2 (.idx (.idx (.slot 0) (.cst (.int 0))) (.idx (.slot 0) (.cst (.int 1)))),
    .sub (.slot 0) (.cst (.int 1)) (.bin .add (.idx (.slot 0) (.cst (.int 1))) (.cst (.int 1))),
    .cond (.cmp .ge (.slot 2) (.bin .pow (.cst (.int 10)) (.cst (.int 18)))) [
      .sub (.slot 0) (.cst (.int 2)) (.slot 2)] [
      .sub (.slot 0) (.cst (.int 3)) (.bin .mod (.bcall false .int [.bin .add (.bin .add (.bin .mul (.idx (.slot 0) (.cst (.int 3))) (.cst (.int 60383))) (.bin .mul (.bin .mod (.bcall false .int [.slot 2]) (.cst (.int 2147482817))) (.cst (.int 7577)))) (.cst (.int 61))]) (.cst (.int 2147483587)))]] [],
  .cond (.cmp .gt (.idx (.slot 0) (.cst (.int 2))) (.cst (.int 0))) [
    .set 3 (.bin .mod (.bcall false .int [.idx (.slot 0) (.cst (.int 2))]) (.slot 1)),
    .sub (.slot 0) (.cst (.int 2)) (.bin .fdiv (.idx (.slot 0) (.cst (.int 2))) (.slot 1)),
    .ret (.slot 3)] [],
  .set 4 (.idx (.slot 0) (.cst (.int 3))),
  .sub (.slot 0) (.cst (.int 3)) (.bin .mod (.bcall false .int [.bin .add (.bin .add (.bin .mul (.slot 4) (.slot 4)) (.bin .mul (.slot 4) (.cst (.int 27793)))) (.cst (.int 1302017))]) (.cst (.int 2147483587))),
  .ret (.bin .mod (.bcall false .int [.bin .add (.bin .fdiv (.idx (.slot 0) (.cst (.int 3))) (.cst (.int 73))) (.bin .mul (.bin .mod (.bcall false .int [.idx (.slot 0) (.cst (.int 3))]) (.cst (.int 7927))) (.cst (.int 53)))]) (.slot 1))]
def bagC (ns : List Int) (i big seed : Int) : Cell := .lst [.lst (ns.map D.int), .int i, .int big, .int seed]
/-- the cell b is a bag of numbers -/
def Bag (S : Sto) (b : Nat) : Prop := ∃ ns i big seed, S[b]? = some (bagC ns i big seed) ∧ 0 ≤ i ∧ 0 ≤ big ∧ 0 ≤ seed ∧ seed < 2147483587
/-- only the bag has changed -/
def Drew (S S' : Sto) (b : Nat) : Prop := Bag S' b ∧ ∃ c, S' = S.set b c
theorem Drew.len {S S' : Sto} {b : Nat} (h : Drew S S' b) : S'.length = S.length := by
  obtain ⟨_, c, rfl⟩ := h
  exact List.length_set
theorem Drew.trans {S S' S'' : Sto} {b : Nat} (h : Drew S S' b) (g : Drew S' S'' b) : Drew S S'' b := by
  obtain ⟨_, c, rfl⟩ := h
  obtain ⟨h2, c2, rfl⟩ := g
  exact ⟨h2, c2, by rw [List.set_set]⟩
theorem Drew.refl {S : Sto} {b : Nat} (h : Bag S b) : Drew S S b := by
  refine ⟨h, ?_⟩
  obtain ⟨ns, i, big, seed, e, _⟩ := h
  refine ⟨bagC ns i big seed, ?_⟩
  obtain ⟨hb, e2⟩ := List.getElem?_eq_some_iff.mp e
  rw [← e2, List.set_getElem_self]
theorem Bag.lt {S : Sto} {b : Nat} (h : Bag S b) : b < S.length := by
  obtain ⟨ns, i, big, seed, e, _⟩ := h
  exact (List.getElem?_eq_some_iff.mp e).1

section
variable {X : Cxt} {rs : List Nat} {F : Fr} {S : Sto} {b : Nat} {a0 a1 a2 a3 : D}
theorem rd0 (hF : F[0]? = some (some (.ref b))) (hS : S[b]? = some (.lst [a0, a1, a2, a3])) : ev X rs (.idx (.slot 0) (.cst (.int 0))) F S = .ok a0 S := by
  simp [ev, Out.bind, vIdx, seqOf, place, hF, hS]
theorem rd1 (hF : F[0]? = some (some (.ref b))) (hS : S[b]? = some (.lst [a0, a1, a2, a3])) : ev X rs (.idx (.slot 0) (.cst (.int 1))) F S = .ok a1 S := by
  simp [ev, Out.bind, vIdx, seqOf, place, hF, hS]
theorem rd2 (hF : F[0]? = some (some (.ref b))) (hS : S[b]? = some (.lst [a0, a1, a2, a3])) : ev X rs (.idx (.slot 0) (.cst (.int 2))) F S = .ok a2 S := by
  simp [ev, Out.bind, vIdx, seqOf, place, hF, hS]
theorem rd3 (hF : F[0]? = some (some (.ref b))) (hS : S[b]? = some (.lst [a0, a1, a2, a3])) : ev X rs (.idx (.slot 0) (.cst (.int 3))) F S = .ok a3 S := by
  simp [ev, Out.bind, vIdx, seqOf, place, hF, hS]
theorem fits_int {n : Nat} {v : Int} : fitsIn rs n (.int v) = true := by
  unfold fitsIn
  simp [D.lo]
theorem wr {e : CE} {k : Nat} {v : Int} (hk : k < 4) (hF : F[0]? = some (some (.ref b))) (hS : S[b]? = some (.lst [a0, a1, a2, a3])) (he : ev X rs e F S = .ok (.int v) S) : evS X rs (.sub (.slot 0) (.cst (.int k)) e) F S = .nx F (S.set b (.lst ([a0, a1, a2, a3].set k (.int v)))) := by
  have p : place (k : Int) 4 = some k := by
    unfold place
    rw [if_pos (by omega), if_pos (by omega)]
    rfl
  simp [evS, he, Out.run, ev, hF, vSet, hS, p, fits_int]
end
theorem gset {S : Sto} {b : Nat} {c : Cell} (h : b < S.length) : (S.set b c)[b]? = some c := List.getElem?_set_self h
theorem mulV {i : Int} {S : Sto} {c : Int} (h : mulFits i c = true) : vBin .mul (.int i) (.int c) S = .ok (.int (i * c)) S := by
  simp [vBin, vMul, h, okIf]
theorem modV {i c : Int} {S : Sto} (h : 0 < c) : vBin .mod (.int i) (.int c) S = .ok (.int (i % c)) S := by
  simp [vBin, okIf, h]
theorem fdivV {i c : Int} {S : Sto} (h : 0 < c) (h2 : c < 10000000000000000000000000000000000000000) : vBin .fdiv (.int i) (.int c) S = .ok (.int (i / c)) S := by
  simp [vBin, okIf, h, h2]
theorem addV {i c : Int} {S : Sto} : vBin .add (.int i) (.int c) S = .ok (.int (i + c)) S := rfl
theorem intV {i : Int} {mu : Bool} {S : Sto} : vBi mu .int [.int i] S = .ok (.int i) S := rfl
theorem fits_l {i c : Int} (h1 : -18446744073709551616 < i) (h2 : i < 18446744073709551616) : mulFits i c = true := by
  unfold mulFits
  simp [h1, h2]
theorem fits_r {i c : Int} (h1 : -18446744073709551616 < c) (h2 : c < 18446744073709551616) : mulFits i c = true := by
  unfold mulFits
  simp [h1, h2]
theorem seq_nx {F : Fr} {S : Sto} {k : Fr → Sto → OS} : OS.seq (.nx F S) k = k F S := rfl
theorem seq_ret {d : D} {S : Sto} {k : Fr → Sto → OS} : OS.seq (.ret d S) k = .ret d S := rfl
theorem evSs_cons {X : Cxt} {rs : List Nat} {s : CS} {r : List CS} {F : Fr} {S : Sto} : evSs X rs (s :: r) F S = (evS X rs s F S).seq (evSs X rs r) := by simp only [evSs]
theorem evSs_nil {X : Cxt} {rs : List Nat} {F : Fr} {S : Sto} : evSs X rs [] F S = .nx F S := by simp only [evSs]
theorem bind_ok {α β : Type} {a : α} {S : Sto} {f : α → Sto → Out β} : (Out.ok a S).bind f = f a S := rfl
theorem run_ok {α : Type} {a : α} {S : Sto} {F : Fr} {f : α → Sto → OS} : (Out.ok a S).run F f = f a S := rfl
/-- a test that tells b -/
theorem cond_ev {X : Cxt} {rs : List Nat} {c : CE} {p q : List CS} {F : Fr} {S S1 : Sto} {b : Bool} (h : ev X rs c F S = .ok (.bl b) S1) : evS X rs (.cond c p q) F S = if b then evSs X rs p F S1 else evSs X rs q F S1 := by
  simp only [evS, h, Out.run, truth]
  cases b <;> rfl
theorem set_ev {X : Cxt} {rs : List Nat} {i : Nat} {e : CE} {F : Fr} {S S1 : Sto} {d : D} (h : ev X rs e F S = .ok d S1) : evS X rs (.set i e) F S = .nx (F.set i (some d)) S1 := by
  simp only [evS, h, Out.run]
theorem ret_ev {X : Cxt} {rs : List Nat} {e : CE} {F : Fr} {S S1 : Sto} {d : D} (h : ev X rs e F S = .ok d S1) : evS X rs (.ret e) F S = .ret d S1 := by
  simp only [evS, h, Out.run]

section
variable {X : Cxt} {rs : List Nat}
/-- the bag's first part: a number of the script comes in -/
theorem pull_in {S : Sto} {b : Nat} {m : Int} (h : Bag S b) : ∃ x S', evS X rs (B_pull.headD .pas) [some (.ref b), some (.int m), none, none, none] S = .nx [some (.ref b), some (.int m), x, none, none] S' ∧ Drew S S' b := by
  obtain ⟨ns, i, big, seed, hS, hi, hbg, hs, hs2⟩ := h
  have hb := (List.getElem?_eq_some_iff.mp hS).1
  have hbag : Bag S b := ⟨ns, i, big, seed, hS, hi, hbg, hs, hs2⟩
  unfold bagC at hS
  simp only [B_pull, List.headD_cons]
  have c1 : ev X rs (.bop true [.cmp .eq (.idx (.slot 0) (.cst (.int 2))) (.cst (.int 0)), .cmp .lt (.idx (.slot 0) (.cst (.int 1))) (.bcall false .len [.idx (.slot 0) (.cst (.int 0))])]) [some (.ref b), some (.int m), none, none, none] S = .ok (.bl (decide (big = 0) && decide (i < ns.length))) S := by
    simp only [ev, evB, evL]
    by_cases z : big = 0
    · subst z
      simp [Out.bind, vIdx, seqOf, place, hS, vCmp, vEq, datOf, D.plain, D.dep, D.eqv, truth, vBi, vBi1, lenOf]
    · have z' : (big == 0) = false := by simpa using z
      simp [Out.bind, vIdx, seqOf, place, hS, vCmp, vEq, datOf, D.plain, D.dep, D.eqv, truth, vBi, vBi1, lenOf, z, z']
  rw [cond_ev c1]
  by_cases z : (decide (big = 0) && decide (i < ns.length)) = true
  · rw [z]
    simp only [if_true]
    simp only [Bool.and_eq_true, decide_eq_true_eq] at z
    obtain ⟨rfl, hl⟩ := z
    have hin : i.toNat < ns.length := by omega
    let v := ns[i.toNat]
    have e1 : ev X rs (.idx (.idx (.slot 0) (.cst (.int 0))) (.idx (.slot 0) (.cst (.int 1)))) [some (.ref b), some (.int m), none, none, none] S = .ok (.int v) S := by
      have p : place i (ns.map D.int).length = some i.toNat := by
        unfold place
        rw [List.length_map, if_pos hi, if_pos hin]
      have r0 := rd0 (X := X) (rs := rs) (F := [some (.ref b), some (.int m), none, none, none]) rfl hS
      have r1 := rd1 (X := X) (rs := rs) (F := [some (.ref b), some (.int m), none, none, none]) rfl hS
      show (ev X rs (.idx (.slot 0) (.cst (.int 0))) _ S).bind _ = _
      rw [r0, bind_ok, r1, bind_ok]
      simp only [vIdx, seqOf, p, List.getElem?_map, List.getElem?_eq_getElem hin, Option.map_some]
      rfl
    rw [evSs_cons, set_ev e1, seq_nx]
    have w1 : ev X rs (.bin .add (.idx (.slot 0) (.cst (.int 1))) (.cst (.int 1))) [some (.ref b), some (.int m), some (.int v), none, none] S = .ok (.int (i + 1)) S := by
      have r1 := rd1 (X := X) (rs := rs) (F := [some (.ref b), some (.int m), some (.int v), none, none]) rfl hS
      show (ev X rs (.idx (.slot 0) (.cst (.int 1))) _ S).bind _ = _
      rw [r1, bind_ok]
      rfl
    rw [evSs_cons]
    have w1' := wr (X := X) (rs := rs) (k := 1) (by omega) (F := [some (.ref b), some (.int m), some (.int v), none, none]) rfl hS w1
    show ∃ x S', (evS X rs (.sub (.slot 0) (.cst (.int 1)) _) [some (.ref b), some (.int m), some (.int v), none, none] S).seq _ = _ ∧ _
    have w1'' : evS X rs (.sub (.slot 0) (.cst (.int 1)) (.bin .add (.idx (.slot 0) (.cst (.int 1))) (.cst (.int 1)))) [some (.ref b), some (.int m), some (.int v), none, none] S = .nx [some (.ref b), some (.int m), some (.int v), none, none] (S.set b (.lst [.lst (ns.map D.int), .int (i + 1), .int 0, .int seed])) := w1'
    rw [w1'', seq_nx, evSs_cons]
    have hS2 : (S.set b (.lst [.lst (ns.map D.int), .int (i + 1), .int 0, .int seed]))[b]? = some (.lst [.lst (ns.map D.int), .int (i + 1), .int 0, .int seed]) := gset hb
    generalize hS2e : S.set b (.lst [.lst (ns.map D.int), .int (i + 1), .int 0, .int seed]) = S2 at hS2 ⊢
    have hb2 : b < S2.length := by rw [← hS2e, List.length_set]; exact hb
    have c2 : ev X rs (.cmp .ge (.slot 2) (.bin .pow (.cst (.int 10)) (.cst (.int 18)))) [some (.ref b), some (.int m), some (.int v), none, none] S2 = .ok (.bl (decide ((10 : Int) ^ 18 ≤ v))) S2 := by
      simp [ev, Out.bind, vBin, okIf, vCmp]
    rw [cond_ev c2]
    by_cases hv : (10 : Int) ^ 18 ≤ v
    · rw [decide_eq_true hv]
      simp only [if_true]
      have w2 : evS X rs (.sub (.slot 0) (.cst (.int 2)) (.slot 2)) [some (.ref b), some (.int m), some (.int v), none, none] S2 = .nx [some (.ref b), some (.int m), some (.int v), none, none] (S2.set b (.lst [.lst (ns.map D.int), .int (i + 1), .int v, .int seed])) :=
        wr (k := 2) (by omega) rfl hS2 (by simp [ev])
      rw [evSs_cons, w2, seq_nx, evSs_nil, seq_nx, evSs_nil]
      refine ⟨_, _, rfl, ⟨ns, i + 1, v, seed, gset hb2, by omega, ?_, hs, hs2⟩, _, by rw [← hS2e, List.set_set]⟩
      have : (0 : Int) ≤ 10 ^ 18 := by decide
      omega
    · rw [decide_eq_false hv]
      simp only [Bool.false_eq_true, if_false]
      have w3 : ev X rs (.bin .mod (.bcall false .int [.bin .add (.bin .add (.bin .mul (.idx (.slot 0) (.cst (.int 3))) (.cst (.int 60383))) (.bin .mul (.bin .mod (.bcall false .int [.slot 2]) (.cst (.int 2147482817))) (.cst (.int 7577)))) (.cst (.int 61))]) (.cst (.int 2147483587))) [some (.ref b), some (.int m), some (.int v), none, none] S2 = .ok (.int ((seed * 60383 + v % 2147482817 * 7577 + 61) % 2147483587)) S2 := by
        have r3 := rd3 (X := X) (rs := rs) (F := [some (.ref b), some (.int m), some (.int v), none, none]) rfl hS2
        simp only [ev, evL]
        have r3' : (ev X rs (.slot 0) [some (.ref b), some (.int m), some (.int v), none, none] S2).bind (fun x S1 => (Out.ok (.int 3) S1).bind fun y S2 => vIdx x y S2) = .ok (.int seed) S2 := by simpa only [ev] using r3
        simp only [ev] at r3'
        rw [r3']
        simp only [bind_ok, List.getElem?_cons_succ, List.getElem?_cons_zero]
        rw [mulV (fits_r (by decide) (by decide))]
        simp only [bind_ok, intV]
        rw [modV (by decide)]
        simp only [bind_ok]
        rw [mulV (fits_r (by decide) (by decide))]
        simp only [bind_ok, addV, intV]
        rw [modV (by decide)]
      have w3' : evS X rs (.sub (.slot 0) (.cst (.int 3)) _) [some (.ref b), some (.int m), some (.int v), none, none] S2 = .nx [some (.ref b), some (.int m), some (.int v), none, none] (S2.set b (.lst [.lst (ns.map D.int), .int (i + 1), .int 0, .int ((seed * 60383 + v % 2147482817 * 7577 + 61) % 2147483587)])) :=
        wr (k := 3) (by omega) rfl hS2 w3
      rw [evSs_cons, w3', seq_nx, evSs_nil, seq_nx, evSs_nil]
      exact ⟨_, _, rfl, ⟨ns, i + 1, 0, _, gset hb2, by omega, by omega, Int.emod_nonneg _ (by decide), Int.emod_lt_of_pos _ (by decide)⟩, _, by rw [← hS2e, List.set_set]⟩
  · rw [Bool.eq_false_iff.mpr z]
    simp only [Bool.false_eq_true, if_false, evSs_nil]
    exact ⟨_, S, rfl, .refl hbag⟩
theorem pull_run {S : Sto} {b : Nat} {m : Int} {ps : List Nat} (h : Bag S b) (hm : 0 < m) (hm2 : m < 10000000000000000000000000000000000000000) : ∃ r S', FD.run X ⟨ps, 5, [], B_pull⟩ [.ref b, .int m] rs S = .ok (.int r) S' ∧ 0 ≤ r ∧ r < m ∧ Drew S S' b := by
  obtain ⟨x, S1, e1, d1⟩ := pull_in (X := X) (rs := rs) (m := m) h
  obtain ⟨⟨ns, i, big, seed, hS, hi, hbg, hs, hs2⟩, c1, hc1⟩ := d1
  have hb := (List.getElem?_eq_some_iff.mp hS).1
  have d1 : Drew S S1 b := ⟨⟨ns, i, big, seed, hS, hi, hbg, hs, hs2⟩, c1, hc1⟩
  unfold bagC at hS
  unfold FD.run
  show ∃ r S', (evSs X rs B_pull [some (.ref b), some (.int m), none, none, none] S).out = _ ∧ _
  rw [show B_pull = B_pull.headD .pas :: B_pull.tail from rfl, evSs_cons, e1, seq_nx]
  simp only [B_pull, List.tail_cons]
  rw [evSs_cons]
  have c2 : ev X rs (.cmp .gt (.idx (.slot 0) (.cst (.int 2))) (.cst (.int 0))) [some (.ref b), some (.int m), x, none, none] S1 = .ok (.bl (decide (0 < big))) S1 := by
    have r2 := rd2 (X := X) (rs := rs) (F := [some (.ref b), some (.int m), x, none, none]) rfl hS
    show (ev X rs (.idx (.slot 0) (.cst (.int 2))) _ S1).bind _ = _
    rw [r2, bind_ok]
    rfl
  rw [cond_ev c2]
  by_cases hb0 : 0 < big
  · rw [decide_eq_true hb0]
    simp only [if_true]
    have e3 : ev X rs (.bin .mod (.bcall false .int [.idx (.slot 0) (.cst (.int 2))]) (.slot 1)) [some (.ref b), some (.int m), x, none, none] S1 = .ok (.int (big % m)) S1 := by
      have r2 := rd2 (X := X) (rs := rs) (F := [some (.ref b), some (.int m), x, none, none]) rfl hS
      have : evL X rs [.idx (.slot 0) (.cst (.int 2))] [some (.ref b), some (.int m), x, none, none] S1 = .ok [.int big] S1 := by
        unfold evL
        rw [r2, bind_ok]
        rfl
      show ((evL X rs [.idx (.slot 0) (.cst (.int 2))] _ S1).bind _).bind _ = _
      rw [this, bind_ok, intV, bind_ok]
      show (ev X rs (.slot 1) _ S1).bind _ = _
      rw [show ev X rs (.slot 1) [some (.ref b), some (.int m), x, none, none] S1 = .ok (.int m) S1 from by simp [ev], bind_ok, modV hm]
    rw [evSs_cons, set_ev e3, seq_nx, evSs_cons]
    have e4 : ev X rs (.bin .fdiv (.idx (.slot 0) (.cst (.int 2))) (.slot 1)) [some (.ref b), some (.int m), x, some (.int (big % m)), none] S1 = .ok (.int (big / m)) S1 := by
      have r2 := rd2 (X := X) (rs := rs) (F := [some (.ref b), some (.int m), x, some (.int (big % m)), none]) rfl hS
      show (ev X rs (.idx (.slot 0) (.cst (.int 2))) _ S1).bind _ = _
      rw [r2, bind_ok, show ev X rs (.slot 1) [some (.ref b), some (.int m), x, some (.int (big % m)), none] S1 = .ok (.int m) S1 from by simp [ev], bind_ok, fdivV hm hm2]
    have w4 : evS X rs (.sub (.slot 0) (.cst (.int 2)) (.bin .fdiv (.idx (.slot 0) (.cst (.int 2))) (.slot 1))) [some (.ref b), some (.int m), x, some (.int (big % m)), none] S1 = .nx [some (.ref b), some (.int m), x, some (.int (big % m)), none] (S1.set b (.lst [.lst (ns.map D.int), .int i, .int (big / m), .int seed])) := wr (k := 2) (by omega) rfl hS e4
    show ∃ r S', (((evS X rs _ [some (.ref b), some (.int m), x, some (.int (big % m)), none] S1).seq _).seq _).out = _ ∧ _
    rw [w4, seq_nx, evSs_cons, ret_ev (d := .int (big % m)) (S1 := S1.set b (.lst [.lst (ns.map D.int), .int i, .int (big / m), .int seed])) (by simp [ev])]
    refine ⟨big % m, _, rfl, Int.emod_nonneg _ (by omega), Int.emod_lt_of_pos _ hm, d1.trans ⟨⟨ns, i, big / m, seed, gset hb, hi, Int.ediv_nonneg (by omega) (by omega), hs, hs2⟩, _, rfl⟩⟩
  · rw [decide_eq_false hb0]
    simp only [Bool.false_eq_true, if_false, evSs_nil, seq_nx]
    rw [evSs_cons, set_ev (rd3 rfl hS), seq_nx, evSs_cons]
    show ∃ r S', ((evS X rs _ [some (.ref b), some (.int m), x, none, some (.int seed)] S1).seq _).out = _ ∧ _
    have e5 : ev X rs (.bin .mod (.bcall false .int [.bin .add (.bin .add (.bin .mul (.slot 4) (.slot 4)) (.bin .mul (.slot 4) (.cst (.int 27793)))) (.cst (.int 1302017))]) (.cst (.int 2147483587))) [some (.ref b), some (.int m), x, none, some (.int seed)] S1 = .ok (.int ((seed * seed + seed * 27793 + 1302017) % 2147483587)) S1 := by
      simp only [ev, evL, List.getElem?_cons_succ, List.getElem?_cons_zero, bind_ok]
      rw [mulV (fits_l (by omega) (by omega)), bind_ok, mulV (fits_r (by decide) (by decide))]
      simp only [bind_ok, addV, intV]
      rw [modV (by decide)]
    have w5 : evS X rs (.sub (.slot 0) (.cst (.int 3)) (.bin .mod (.bcall false .int [.bin .add (.bin .add (.bin .mul (.slot 4) (.slot 4)) (.bin .mul (.slot 4) (.cst (.int 27793)))) (.cst (.int 1302017))]) (.cst (.int 2147483587)))) [some (.ref b), some (.int m), x, none, some (.int seed)] S1 = .nx [some (.ref b), some (.int m), x, none, some (.int seed)] (S1.set b (.lst [.lst (ns.map D.int), .int i, .int big, .int ((seed * seed + seed * 27793 + 1302017) % 2147483587)])) := wr (k := 3) (by omega) rfl hS e5
    rw [w5, seq_nx, evSs_cons]
    have hS2 : (S1.set b (.lst [.lst (ns.map D.int), .int i, .int big, .int ((seed * seed + seed * 27793 + 1302017) % 2147483587)]))[b]? = some (.lst [.lst (ns.map D.int), .int i, .int big, .int ((seed * seed + seed * 27793 + 1302017) % 2147483587)]) := gset hb
    have d2 : Drew S1 (S1.set b (.lst [.lst (ns.map D.int), .int i, .int big, .int ((seed * seed + seed * 27793 + 1302017) % 2147483587)])) b := ⟨⟨ns, i, big, _, gset hb, hi, hbg, Int.emod_nonneg _ (by decide), Int.emod_lt_of_pos _ (by decide)⟩, _, rfl⟩
    generalize S1.set b (.lst [.lst (ns.map D.int), .int i, .int big, .int ((seed * seed + seed * 27793 + 1302017) % 2147483587)]) = S2 at hS2 d2 ⊢
    generalize (seed * seed + seed * 27793 + 1302017) % 2147483587 = sd at hS2
    have e6 : ev X rs (.bin .mod (.bcall false .int [.bin .add (.bin .fdiv (.idx (.slot 0) (.cst (.int 3))) (.cst (.int 73))) (.bin .mul (.bin .mod (.bcall false .int [.idx (.slot 0) (.cst (.int 3))]) (.cst (.int 7927))) (.cst (.int 53)))]) (.slot 1)) [some (.ref b), some (.int m), x, none, some (.int seed)] S2 = .ok (.int ((sd / 73 + sd % 7927 * 53) % m)) S2 := by
      have r3 := rd3 (X := X) (rs := rs) (F := [some (.ref b), some (.int m), x, none, some (.int seed)]) rfl hS2
      simp only [ev, evL, List.getElem?_cons_succ, List.getElem?_cons_zero, bind_ok] at r3 ⊢
      rw [r3, bind_ok, fdivV (by decide) (by decide)]
      simp only [bind_ok]
      rw [r3]
      simp only [bind_ok, intV]
      rw [modV (by decide)]
      simp only [bind_ok]
      rw [mulV (fits_r (by decide) (by decide))]
      simp only [bind_ok, addV, intV]
      rw [modV hm]
    rw [ret_ev e6]
    exact ⟨_, _, rfl, Int.emod_nonneg _ (by omega), Int.emod_lt_of_pos _ hm, d1.trans d2⟩
end
end OM
set_option Elab.async false
set_option linter.all false
set_option maxRecDepth 100000
set_option maxHeartbeats 1000000
/-! OmMath2: calls, turns; drawing an item; comparing. -/
namespace OM

/-! ### calls -/
theorem bindA_pos {α : Type} : ∀ {ps : List Nat} {vs : List α}, vs.length = ps.length → bindA [] ps vs [] [] = some vs
  | [], [], _ => by simp [bindA]
  | p :: ps, v :: vs, h => by
    unfold bindA
    rw [bindA_pos (by simpa using h)]
    rfl
  | [], _ :: _, h => by cases h
  | _ :: _, [], h => by cases h
theorem end_ok {S S' : Sto} {d : D} (hd : d.lo S.length = true) (hl : S'.length = S.length) : endCall S (.ok d S') = .ok d S' := by
  have e : frz1 S' S.length d = some d := by
    cases d with
    | ref n =>
      unfold D.lo at hd
      exact if_pos (of_decide_eq_true hd)
    | _ => exact if_pos (e := none) hd
  unfold endCall
  simp only [e]
  rw [List.take_of_length_le (by omega)]
section
variable {X : Cxt} {rs : List Nat} {F : Fr} {S S1 : Sto}
theorem ev_call {f : Nat} {as : List CE} {vs : List D} {ps : List Nat} (ha : evL X rs as F S = .ok vs S1) (hp : X.pars f = some (ps, [])) (hl : vs.length = ps.length) : ev X rs (.call false f as [] []) F S = endCall S1 (X.call f vs (S1.length :: rs) S1) := by
  simp only [ev, evL, ha, Out.bind, hp, bindA_pos hl, Bool.false_eq_true, if_false]
theorem ev_callK {f : Nat} {as : List CE} {vs : List D} {ps : List Nat} (ha : evL X rs as F S = .ok vs S1) (hp : X.pars f = some (ps, [])) (hl : vs.length = ps.length) : ev X rs (.call true f as [] []) F S = X.call f vs rs S1 := by
  simp only [ev, evL, ha, Out.bind, hp, bindA_pos hl, if_true]
theorem evL_nil : evL X rs [] F S = .ok [] S := by simp only [evL]
theorem evL_cons {a : CE} {as : List CE} {x : D} {xs : List D} {S2 : Sto} (h1 : ev X rs a F S = .ok x S1) (h2 : evL X rs as F S1 = .ok xs S2) : evL X rs (a :: as) F S = .ok (x :: xs) S2 := by
  simp only [evL, h1, Out.bind, h2]
theorem ev_slot {i : Nat} {d : D} (h : F[i]? = some (some d)) : ev X rs (.slot i) F S = .ok d S := by simp only [ev, h]
theorem ev_cst {d : D} : ev X rs (.cst d) F S = .ok d S := by simp only [ev]
theorem ev_glo {g : Nat} {d : D} (h : X.glob g = some d) : ev X rs (.glo g) F S = .ok d S := by simp only [ev, h]
theorem ev_bin {o : BinO} {a b : CE} {x y : D} {S2 : Sto} (h1 : ev X rs a F S = .ok x S1) (h2 : ev X rs b F S1 = .ok y S2) : ev X rs (.bin o a b) F S = vBin o x y S2 := by simp only [ev, h1, h2, Out.bind]
theorem ev_cmp {o : CmpO} {a b : CE} {x y : D} {S2 : Sto} (h1 : ev X rs a F S = .ok x S1) (h2 : ev X rs b F S1 = .ok y S2) : ev X rs (.cmp o a b) F S = vCmp o x y S2 := by simp only [ev, h1, h2, Out.bind]
theorem ev_bcall {mu : Bool} {b : Bi} {as : List CE} {xs : List D} (h : evL X rs as F S = .ok xs S1) : ev X rs (.bcall mu b as) F S = vBi mu b xs S1 := by simp only [ev, h, Out.bind]
theorem ev_bcall1 {mu : Bool} {b : Bi} {a : CE} {x : D} (h : ev X rs a F S = .ok x S1) : ev X rs (.bcall mu b [a]) F S = vBi mu b [x] S1 := by simp only [ev, evL, h, Out.bind]
theorem ev_idx {a b : CE} {x y : D} {S2 : Sto} (h1 : ev X rs a F S = .ok x S1) (h2 : ev X rs b F S1 = .ok y S2) : ev X rs (.idx a b) F S = vIdx x y S2 := by simp only [ev, h1, h2, Out.bind]
theorem ev_not {a : CE} {x : D} {b : Bool} (h1 : ev X rs a F S = .ok x S1) (h2 : truth S1 x = some b) : ev X rs (.not a) F S = .ok (.bl (!b)) S1 := by simp only [ev, h1, Out.bind, h2]
theorem ev_lst {mu : Bool} {as : List CE} {xs : List D} (h : evL X rs as F S = .ok xs S1) : ev X rs (.lst mu as) F S = mkList mu xs S1 := by simp only [ev, h, Out.bind]
theorem ev_tup {as : List CE} {xs : List D} (h : evL X rs as F S = .ok xs S1) : ev X rs (.tup as) F S = okIf (decide (xs.length ≤ line)) (.tup xs) S1 := by simp only [ev, h, Out.bind]
theorem ev_and {a b : CE} {r : List CE} {c : Bool} (h1 : ev X rs a F S = .ok (.bl c) S1) : ev X rs (.bop true (a :: b :: r)) F S = if c then ev X rs (.bop true (b :: r)) F S1 else .ok (.bl false) S1 := by
  simp only [ev, evB, h1, Out.bind, truth]
  cases c <;> rfl
theorem ev_or {a b : CE} {r : List CE} {c : Bool} (h1 : ev X rs a F S = .ok (.bl c) S1) : ev X rs (.bop false (a :: b :: r)) F S = if c then .ok (.bl true) S1 else ev X rs (.bop false (b :: r)) F S1 := by
  simp only [ev, evB, h1, Out.bind, truth]
  cases c <;> rfl
theorem ev_bop1 {k : Bool} {a : CE} : ev X rs (.bop k [a]) F S = ev X rs a F S := by simp only [ev, evB]
theorem ev_isin {a : CE} {ts : List CE} {x : D} {zs : List D} {b : Bool} {S2 : Sto} (h1 : ev X rs a F S = .ok x S1) (h2 : evL X rs ts F S1 = .ok zs S2) (h3 : isInst S2 x zs = some b) : ev X rs (.isin a ts) F S = .ok (.bl b) S2 := by
  simp only [ev, h1, h2, Out.bind, h3]
end
theorem cxt_pars {Pg : Prog} {k f : Nat} {G : FD} (h : Pg.fd f = some G) : (cxt Pg k).pars f = some (G.ps, G.dv) := by
  show (Pg.fd f).map _ = _
  rw [h]
  rfl
theorem callD_succ {Pg : Prog} {k f : Nat} {G : FD} {vs : List D} {rs : List Nat} {S : Sto} (h : Pg.fd f = some G) : callD Pg (k + 1) f vs rs S = G.run (cxt Pg k) vs rs S := by
  conv => lhs; unfold callD
  rw [h]
  rfl

/-! ### turns -/
theorem turns_ind {f : D → Sto → Out (List D)} {l : List D} (P : Nat → List D → Sto → Prop) (step : ∀ i d ys S, l[i]? = some d → P i ys S → ∃ zs S', f d S = .ok zs S' ∧ P (i + 1) (ys ++ zs) S') :
    ∀ (m i : Nat) (ys : List D) (S : Sto), i + m = l.length → P i ys S → ∃ zs S', turns f (.items l) m i ys S = .ok zs S' ∧ P l.length zs S'
  | 0, i, ys, S, h, p => by
    have e : l[i]? = none := List.getElem?_eq_none_iff.mpr (by omega)
    refine ⟨ys, S, ?_, by rw [← h]; exact p⟩
    simp only [turns, srcAt, e]
  | m + 1, i, ys, S, h, p => by
    have hi : i < l.length := by omega
    obtain ⟨zs, S', e1, p'⟩ := step i l[i] ys S (List.getElem?_eq_getElem hi) p
    obtain ⟨ws, S'', e2, p''⟩ := turns_ind P step m (i + 1) (ys ++ zs) S' (by omega) p'
    refine ⟨ws, S'', ?_, p''⟩
    simp only [turns, srcAt, List.getElem?_eq_getElem hi, e1, nox, Out.bind]
    exact e2
/-- turns that leave the store as it is -/
theorem turns_map {f : D → Sto → Out (List D)} {S : Sto} {g : D → List D} : ∀ (l pre : List D) (ys : List D), (∀ d ∈ l, f d S = .ok (g d) S) → turns f (.items (pre ++ l)) l.length pre.length ys S = .ok (ys ++ l.flatMap g) S
  | [], pre, ys, _ => by simp [turns, srcAt]
  | d :: l, pre, ys, h => by
    have e : (pre ++ d :: l)[pre.length]? = some d := by simp
    simp only [List.length_cons, turns, srcAt, e, h d List.mem_cons_self, nox, Out.bind]
    have := turns_map (f := f) (g := g) l (pre ++ [d]) (ys ++ g d) (fun x hx => h x (List.mem_cons_of_mem _ hx))
    rw [List.append_assoc, List.length_append] at this
    simp only [List.singleton_append, List.length_singleton] at this
    rw [this]
    simp [List.append_assoc]
theorem turns_pure {f : D → Sto → Out (List D)} {S : Sto} {g : D → List D} {l : List D} (h : ∀ d ∈ l, f d S = .ok (g d) S) : turns f (.items l) l.length 0 [] S = .ok (l.flatMap g) S := by
  have := turns_map l [] [] h
  simpa using this
theorem turnsS_ind {f : D → Fr → Sto → OS} {l : List D} (P : Nat → Fr → Sto → Prop) (step : ∀ i d F S, l[i]? = some d → P i F S → ∃ F' S', f d F S = .nx F' S' ∧ P (i + 1) F' S') :
    ∀ (m i : Nat) (F : Fr) (S : Sto), i + m = l.length → P i F S → ∃ F' S', turnsS f (.items l) m i F S = .nx F' S' ∧ P l.length F' S'
  | 0, i, F, S, h, p => by
    have e : l[i]? = none := List.getElem?_eq_none_iff.mpr (by omega)
    refine ⟨F, S, ?_, by rw [← h]; exact p⟩
    simp only [turnsS, srcAt, e]
  | m + 1, i, F, S, h, p => by
    have hi : i < l.length := by omega
    obtain ⟨F', S', e1, p'⟩ := step i l[i] F S (List.getElem?_eq_getElem hi) p
    obtain ⟨F'', S'', e2, p''⟩ := turnsS_ind P step m (i + 1) F' S' (by omega) p'
    refine ⟨F'', S'', ?_, p''⟩
    simp only [turnsS, srcAt, List.getElem?_eq_getElem hi, e1]
    exact e2
theorem comp_ev {X : Cxt} {rs : List Nat} {mu : Bool} {e : CE} {t : Tgt} {it : IT} {ifs : List CE} {F : Fr} {S S1 S2 : Sto} {l zs : List D} (hi : evI X rs it F S = .ok (.items l) S1) (ht : turns (turnF X rs e t ifs (wipeF F t.slots)) (.items l) l.length 0 [] S1 = .ok zs S2) : ev X rs (.comp mu e [.mk t it ifs]) F S = mkList mu zs S2 := by
  rw [ev_comp1, hi, bind_ok]
  show (turns _ (.items l) l.length 0 [] S1).bind _ = _
  rw [ht, bind_ok]
theorem turnF_no {X : Cxt} {rs : List Nat} {e : CE} {t : Tgt} {Fw F2 : Fr} {d v : D} {S S' : Sto} (hb : bindT t d Fw = some F2) (he : ev X rs e F2 S = .ok v S') : turnF X rs e t [] Fw d S = .ok [v] S' := by
  unfold turnF
  rw [hb]
  simp only [evT, Out.bind, if_true, evG, he]

/-! ### drawing -/
section
variable {Pg : Prog} {k P : Nat} {pp : List Nat} {rs : List Nat} {S : Sto} {b : Nat}
theorem pull_call (hP : Pg.fd P = some ⟨pp, 5, [], B_pull⟩) {m : Int} (h : Bag S b) (hm : 0 < m) (hm2 : m < 10000000000000000000000000000000000000000) : ∃ r S', endCall S ((cxt Pg (k + 1)).call P [.ref b, .int m] (S.length :: rs) S) = .ok (.int r) S' ∧ 0 ≤ r ∧ r < m ∧ Drew S S' b := by
  obtain ⟨r, S', e, h1, h2, h3⟩ := pull_run (X := cxt Pg k) (rs := S.length :: rs) (ps := pp) h hm hm2
  refine ⟨r, S', ?_, h1, h2, h3⟩
  show endCall S (callD Pg (k + 1) P _ _ S) = _
  rw [callD_succ hP, e]
  exact end_ok rfl h3.len
theorem pull_ev (hP : Pg.fd P = some ⟨pp, 5, [], B_pull⟩) (hl : pp.length = 2) {F : Fr} {S0 : Sto} {as : List CE} {m : Int} (ha : evL (cxt Pg (k + 1)) rs as F S0 = .ok [.ref b, .int m] S) (h : Bag S b) (hm : 0 < m) (hm2 : m < 10000000000000000000000000000000000000000) : ∃ r S', ev (cxt Pg (k + 1)) rs (.call false P as [] []) F S0 = .ok (.int r) S' ∧ 0 ≤ r ∧ r < m ∧ Drew S S' b := by
  rw [ev_call ha (cxt_pars hP) (by rw [hl]; rfl)]
  exact pull_call hP h hm hm2
def B_of (P : Nat) : List CS := [.ret (.idx (.slot 1) (.call false P [.slot 0, .bcall false .len [.slot 1]] [] []))]
theorem of_len (hP : Pg.fd P = some ⟨pp, 5, [], B_pull⟩) (hl : pp.length = 2) {x : D} {n : Nat} {po : List Nat} (h : Bag S b) (hn : lenOf S x = some n) (h0 : 0 < n) (h1 : n < 1073741824) :
    ∃ (i : Nat) (S' : Sto), i < n ∧ Drew S S' b ∧ FD.run (cxt Pg (k + 1)) ⟨po, 2, [], B_of P⟩ [.ref b, x] rs S = ((vIdx x (.int i) S').run [some (.ref b), some x] fun d S1 => .ret d S1).out := by
  have e1 : evL (cxt Pg (k + 1)) rs [.slot 0, .bcall false .len [.slot 1]] [some (.ref b), some x] S = .ok [.ref b, .int (n : Int)] S := by
    refine evL_cons (ev_slot rfl) (evL_cons ?_ evL_nil)
    rw [ev_bcall1 (ev_slot (d := x) rfl)]
    simp only [vBi, vBi1, hn]
  obtain ⟨r, S', e2, r1, r2, dr⟩ := pull_ev (k := k) (rs := rs) hP hl e1 h (by omega) (by omega)
  refine ⟨r.toNat, S', by omega, dr, ?_⟩
  have er : ((r.toNat : Nat) : Int) = r := by omega
  rw [er]
  unfold FD.run
  show (evSs _ rs (B_of P) [some (.ref b), some x] S).out = _
  unfold B_of
  rw [evSs_cons]
  simp only [evS]
  rw [show ev (cxt Pg (k + 1)) rs (.idx (.slot 1) (.call false P [.slot 0, .bcall false .len [.slot 1]] [] [])) [some (.ref b), some x] S = vIdx x (.int r) S' from ev_idx (ev_slot rfl) e2]
  cases vIdx x (.int r) S' <;> rfl
theorem of_str {po : List Nat} {O : Nat} (hO : Pg.fd O = some ⟨po, 2, [], B_of P⟩) (hP : Pg.fd P = some ⟨pp, 5, [], B_pull⟩) (hl : pp.length = 2) (ho : po.length = 2) {s : List Nat} (h : Bag S b) (h0 : 0 < s.length) (h1 : s.length < 1073741824) {F : Fr} {S0 : Sto} {as : List CE} (ha : evL (cxt Pg (k + 2)) rs as F S0 = .ok [.ref b, .str s] S) :
    ∃ c S', c ∈ s ∧ Drew S S' b ∧ ev (cxt Pg (k + 2)) rs (.call false O as [] []) F S0 = .ok (.str [c]) S' := by
  obtain ⟨i, S', hi, dr, e⟩ := of_len (k := k) (rs := S.length :: rs) (po := po) hP hl h (x := .str s) (n := s.length) rfl h0 h1
  refine ⟨s[i], S', List.getElem_mem hi, dr, ?_⟩
  rw [ev_call ha (cxt_pars hO) (by rw [ho]; rfl)]
  show endCall S (callD Pg (k + 1 + 1) O _ _ S) = _
  rw [callD_succ hO, e]
  have p : place (i : Int) s.length = some i := by
    unfold place
    rw [if_pos (by omega), if_pos (by omega)]
    rfl
  simp only [vIdx, p, List.getElem?_eq_getElem hi, Out.run, OS.out]
  exact end_ok rfl dr.len
theorem of_lst {po : List Nat} {O : Nat} (hO : Pg.fd O = some ⟨po, 2, [], B_of P⟩) (hP : Pg.fd P = some ⟨pp, 5, [], B_pull⟩) (hl : pp.length = 2) (ho : po.length = 2) {s : List D} (h : Bag S b) (h0 : 0 < s.length) (h1 : s.length < 1073741824) (hlo : ∀ d ∈ s, ∀ m, d.lo m = true) {F : Fr} {S0 : Sto} {as : List CE} (ha : evL (cxt Pg (k + 2)) rs as F S0 = .ok [.ref b, .lst s] S) :
    ∃ c S', c ∈ s ∧ Drew S S' b ∧ ev (cxt Pg (k + 2)) rs (.call false O as [] []) F S0 = .ok c S' := by
  obtain ⟨i, S', hi, dr, e⟩ := of_len (k := k) (rs := S.length :: rs) (po := po) hP hl h (x := .lst s) (n := s.length) rfl h0 h1
  refine ⟨s[i], S', List.getElem_mem hi, dr, ?_⟩
  rw [ev_call ha (cxt_pars hO) (by rw [ho]; rfl)]
  show endCall S (callD Pg (k + 1 + 1) O _ _ S) = _
  rw [callD_succ hO, e]
  have p : place (i : Int) s.length = some i := by
    unfold place
    rw [if_pos (by omega), if_pos (by omega)]
    rfl
  simp only [vIdx, seqOf, p, List.getElem?_eq_getElem hi, Out.run, OS.out]
  exact end_ok (hlo _ (List.getElem_mem hi) _) dr.len
end

/-! ### comparing -/
def B_same (Sm : Nat) : List CS := [
  .cond (.isin (.slot 1) [.cst (.ty 5), .cst (.ty 4)]) [
    .cond (.bop false [.cmp .ne (.isin (.slot 0) [.cst (.ty 5)]) (.isin (.slot 1) [.cst (.ty 5)]), .cmp .ne (.isin (.slot 0) [.cst (.ty 4)]) (.isin (.slot 1) [.cst (.ty 4)])]) [
      .ret (.cst (.bl false))] [],
    .ret (.bop true [.cmp .eq (.bcall false .len [.slot 0]) (.bcall false .len [.slot 1]), .bcall false .all [.comp false (.call false Sm [.slot 2, .slot 3] [] []) [.mk (.tup [2, 3]) (.zip (.slot 0) (.slot 1)) []]]])] [],
  .cond (.bop false [.cmp .is (.slot 1) (.cst (.non)), .cmp .is (.slot 0) (.cst (.non))]) [
    .ret (.bop true [.cmp .is (.slot 1) (.cst (.non)), .cmp .is (.slot 0) (.cst (.non))])] [],
  .cond (.bop false [.cmp .ne (.isin (.slot 0) [.cst (.ty 1)]) (.isin (.slot 1) [.cst (.ty 1)]), .cmp .ne (.isin (.slot 0) [.cst (.ty 2)]) (.isin (.slot 1) [.cst (.ty 2)])]) [
    .ret (.cst (.bl false))] [],
  .ret (.bop true [.cmp .eq (.isin (.slot 0) [.cst (.ty 3)]) (.isin (.slot 1) [.cst (.ty 3)]), .cmp .eq (.slot 0) (.slot 1)])]
def kD : D → Nat
  | .non => 0
  | .bl _ => 1
  | .int _ => 2
  | .str _ => 3
  | .tup _ => 4
  | .lst _ => 5
  | _ => 9
mutual
def sameD (f : D) : D → Bool
  | .lst ys => (match f with
    | .lst xs => decide (xs.length = ys.length) && sameL xs ys
    | _ => false)
  | .tup ys => (match f with
    | .tup xs => decide (xs.length = ys.length) && sameL xs ys
    | _ => false)
  | d => if isNon d || isNon f then isNon d && isNon f else if (kindIn (kD f) 1 != kindIn (kD d) 1) || (kindIn (kD f) 2 != kindIn (kD d) 2) then false else (kD f == 3) == (kD d == 3) && D.eqv f d
def sameL (xs : List D) : List D → Bool
  | [] => true
  | y :: ys => (match xs with
    | x :: xs => sameD x y && sameL xs ys
    | [] => true)
end
theorem kind_plain {S : Sto} {d : D} (h : d.plain = true) : kindOf S d = some (kD d) := by
  cases d <;> first | rfl | cases h
section
variable {X : Cxt} {rs : List Nat} {F : Fr} {S : Sto}
theorem isin1 {i t : Nat} {d : D} (hF : F[i]? = some (some d)) (h : d.plain = true) (ht : t < 7) : ev X rs (.isin (.slot i) [.cst (.ty t)]) F S = .ok (.bl (kindIn (kD d) t)) S :=
  ev_isin (ev_slot hF) (evL_cons ev_cst evL_nil) (by simp [isInst, kind_plain h, ht])
theorem isin2 {i t u : Nat} {d : D} (hF : F[i]? = some (some d)) (h : d.plain = true) (ht : t < 7) (hu : u < 7) : ev X rs (.isin (.slot i) [.cst (.ty t), .cst (.ty u)]) F S = .ok (.bl (kindIn (kD d) t || kindIn (kD d) u)) S :=
  ev_isin (ev_slot hF) (evL_cons ev_cst (evL_cons ev_cst evL_nil)) (by simp [isInst, kind_plain h, ht, hu])
theorem cmp_bl {o : CmpO} {a b : CE} {x y : Bool} (ho : o = .eq ∨ o = .ne) (h1 : ev X rs a F S = .ok (.bl x) S) (h2 : ev X rs b F S = .ok (.bl y) S) : ev X rs (.cmp o a b) F S = .ok (.bl (if o = .eq then x == y else x != y)) S := by
  rw [ev_cmp h1 h2]
  rcases ho with rfl | rfl
  · simp [vCmp, vEq, datOf, D.plain, D.dep, D.eqv]
  · simp [vCmp, vEq, datOf, D.plain, D.dep, D.eqv, bne]
theorem is_non {i : Nat} {d : D} (hF : F[i]? = some (some d)) : ev X rs (.cmp .is (.slot i) (.cst (.non))) F S = .ok (.bl (isNon d)) S := by
  rw [ev_cmp (ev_slot hF) ev_cst]
  rfl
theorem or2 {a b : CE} {x y : Bool} (h1 : ev X rs a F S = .ok (.bl x) S) (h2 : ev X rs b F S = .ok (.bl y) S) : ev X rs (.bop false [a, b]) F S = .ok (.bl (x || y)) S := by
  rw [ev_or h1, ev_bop1, h2]
  cases x <;> rfl
theorem and2 {a b : CE} {x y : Bool} (h1 : ev X rs a F S = .ok (.bl x) S) (h2 : ev X rs b F S = .ok (.bl y) S) : ev X rs (.bop true [a, b]) F S = .ok (.bl (x && y)) S := by
  rw [ev_and h1, ev_bop1, h2]
  cases x <;> rfl
end
mutual
/-- lists and tuples within the model's line -/
def D.fit : D → Bool
  | .tup xs => decide (xs.length ≤ line) && fitL xs
  | .lst xs => decide (xs.length ≤ line) && fitL xs
  | _ => true
def fitL : List D → Bool
  | [] => true
  | d :: ds => D.fit d && fitL ds
end
theorem plainL_mem : ∀ {ds : List D} {d : D}, plainL ds = true → d ∈ ds → d.plain = true
  | e :: ds, d, h, m => by
    unfold plainL at h
    rw [Bool.and_eq_true] at h
    rcases List.mem_cons.mp m with rfl | m
    · exact h.1
    · exact plainL_mem h.2 m
theorem fitL_mem : ∀ {ds : List D} {d : D}, fitL ds = true → d ∈ ds → d.fit = true
  | e :: ds, d, h, m => by
    unfold fitL at h
    rw [Bool.and_eq_true] at h
    rcases List.mem_cons.mp m with rfl | m
    · exact h.1
    · exact fitL_mem h.2 m
theorem depL_mem : ∀ {ds : List D} {d : D}, d ∈ ds → D.dep d ≤ depL ds
  | e :: ds, d, m => by
    unfold depL
    rcases List.mem_cons.mp m with rfl | m
    · omega
    · have := depL_mem m
      omega
theorem zipD_mem : ∀ {xs ys : List D} {z : D}, z ∈ zipD xs ys → ∃ x y, x ∈ xs ∧ y ∈ ys ∧ z = .tup [x, y]
  | [], _, z, m => by simp [zipD] at m
  | _ :: _, [], z, m => by simp [zipD] at m
  | x :: xs, y :: ys, z, m => by
    unfold zipD at m
    rcases List.mem_cons.mp m with rfl | m
    · exact ⟨x, y, List.mem_cons_self, List.mem_cons_self, rfl⟩
    · obtain ⟨a, b, h1, h2, h3⟩ := zipD_mem m
      exact ⟨a, b, List.mem_cons_of_mem _ h1, List.mem_cons_of_mem _ h2, h3⟩
theorem zipD_len : ∀ (xs ys : List D), (zipD xs ys).length ≤ ys.length
  | [], _ => by simp [zipD]
  | _ :: _, [] => by simp [zipD]
  | x :: xs, y :: ys => by
    unfold zipD
    have := zipD_len xs ys
    simp only [List.length_cons]
    omega
def sameP : D → List D
  | .tup [x, y] => [.bl (sameD x y)]
  | _ => []
theorem sameP_bools : ∀ (xs ys : List D), bools ((zipD xs ys).flatMap sameP) = some ((zipD xs ys).flatMap fun z => match z with | .tup [x, y] => [sameD x y] | _ => [])
  | [], _ => by simp [zipD, bools]
  | _ :: _, [] => by simp [zipD, bools]
  | x :: xs, y :: ys => by
    unfold zipD
    simp only [List.flatMap_cons, sameP, List.singleton_append, bools]
    rw [sameP_bools xs ys]
    rfl
theorem sameP_all : ∀ (xs ys : List D), ((zipD xs ys).flatMap fun z => match z with | .tup [x, y] => [sameD x y] | _ => []).all id = sameL xs ys
  | [], [] => by simp [zipD, sameL]
  | [], _ :: _ => by simp [zipD, sameL]
  | _ :: _, [] => by simp [zipD, sameL]
  | x :: xs, y :: ys => by
    unfold zipD
    simp only [List.flatMap_cons, List.singleton_append, List.all_cons, id]
    rw [sameP_all xs ys]
    simp [sameL]
theorem sameP_len : ∀ (xs ys : List D), ((zipD xs ys).flatMap sameP).length = (zipD xs ys).length
  | [], _ => by simp [zipD]
  | _ :: _, [] => by simp [zipD]
  | x :: xs, y :: ys => by
    unfold zipD
    simp only [List.flatMap_cons, sameP, List.singleton_append, List.length_cons]
    rw [sameP_len xs ys]
section
variable {Pg : Prog} {Sm : Nat} {po : List Nat}
theorem same_ok (hS : Pg.fd Sm = some ⟨po, 4, [], B_same Sm⟩) (hpo : po.length = 2) : ∀ (k : Nat) (f d : D), f.plain = true → d.plain = true → d.fit = true → D.dep d < k → D.dep f ≤ 64 → D.dep d ≤ 64 → ∀ (rs : List Nat) (S : Sto), callD Pg k Sm [f, d] rs S = .ok (.bl (sameD f d)) S
  | 0, f, d, pf, pd, hw, hk, hf, hd, rs, S => by omega
  | k + 1, f, d, pf, pd, hw, hk, hf, hd, rs, S => by
    rw [callD_succ hS]
    unfold FD.run
    show (evSs (cxt Pg k) rs (B_same Sm) [some f, some d, none, none] S).out = _
    unfold B_same
    have i1 := isin2 (X := cxt Pg k) (rs := rs) (F := [some f, some d, none, none]) (S := S) (i := 1) (t := 5) (u := 4) rfl pd (by omega) (by omega)
    -- lists and tuples
    have seqs : ∀ (c : Bool) (xs ys : List D), f = (if c then .lst xs else .tup xs) → d = (if c then .lst ys else .tup ys) →
        (evSs (cxt Pg k) rs [.ret (.bop true [.cmp .eq (.bcall false .len [.slot 0]) (.bcall false .len [.slot 1]), .bcall false .all [.comp false (.call false Sm [.slot 2, .slot 3] [] []) [.mk (.tup [2, 3]) (.zip (.slot 0) (.slot 1)) []]]])] [some f, some d, none, none] S) = .ret (.bl (decide (xs.length = ys.length) && sameL xs ys)) S := by
      intro c xs ys ef ed
      have pxs : plainL xs = true := by cases c <;> (subst ef; simpa [D.plain] using pf)
      have pys : plainL ys = true := by cases c <;> (subst ed; simpa [D.plain] using pd)
      have fys : decide (ys.length ≤ line) = true ∧ fitL ys = true := by
        cases c <;> (subst ed; simpa [D.fit] using hw)
      have dys : depL ys < k := by cases c <;> (subst ed; simp [D.dep] at hk; omega)
      have dxs : depL xs ≤ 63 := by cases c <;> (subst ef; simp [D.dep] at hf; omega)
      have dys2 : depL ys ≤ 63 := by cases c <;> (subst ed; simp [D.dep] at hd; omega)
      have l0 : lenOf S f = some xs.length := by subst ef; cases c <;> rfl
      have l1 : lenOf S d = some ys.length := by subst ed; cases c <;> rfl
      have c1 : ev (cxt Pg k) rs (.cmp .eq (.bcall false .len [.slot 0]) (.bcall false .len [.slot 1])) [some f, some d, none, none] S = .ok (.bl (decide (xs.length = ys.length))) S := by
        rw [ev_cmp (x := .int (xs.length : Int)) (y := .int (ys.length : Int)) (S1 := S) (S2 := S) (by rw [ev_bcall1 (ev_slot rfl)]; simp only [vBi, vBi1, l0]) (by rw [ev_bcall1 (ev_slot rfl)]; simp only [vBi, vBi1, l1])]
        simp [vCmp, vEq, datOf, D.plain, D.dep, D.eqv]
        rw [Bool.eq_iff_iff, beq_iff_eq, decide_eq_true_eq]
        omega
      have z1 : evI (cxt Pg k) rs (.zip (.slot 0) (.slot 1)) [some f, some d, none, none] S = .ok (.items (zipD xs ys)) S := by
        subst ef; subst ed
        cases c <;> simp [evI, ev, Out.bind]
      have t1 : turns (turnF (cxt Pg k) rs (.call false Sm [.slot 2, .slot 3] [] []) (.tup [2, 3]) [] (wipeF [some f, some d, none, none] (Tgt.tup [2, 3]).slots)) (.items (zipD xs ys)) (zipD xs ys).length 0 [] S = .ok ((zipD xs ys).flatMap sameP) S := by
        refine turns_pure fun z hz => ?_
        obtain ⟨x, y, hx, hy, rfl⟩ := zipD_mem hz
        refine turnF_no (F2 := [some f, some d, some x, some y]) rfl ?_
        rw [ev_call (ps := po) (evL_cons (ev_slot rfl) (evL_cons (ev_slot rfl) evL_nil)) (cxt_pars hS) (by rw [hpo]; rfl)]
        show endCall S (callD Pg k Sm [x, y] _ S) = _
        have dx := depL_mem hx
        have dy := depL_mem hy
        rw [same_ok hS hpo k x y (plainL_mem pxs hx) (plainL_mem pys hy) (fitL_mem fys.2 hy) (by omega) (by omega) (by omega)]
        exact end_ok rfl rfl
      have c2 : ev (cxt Pg k) rs (.bcall false .all [.comp false (.call false Sm [.slot 2, .slot 3] [] []) [.mk (.tup [2, 3]) (.zip (.slot 0) (.slot 1)) []]]) [some f, some d, none, none] S = .ok (.bl (sameL xs ys)) S := by
        have e := comp_ev (mu := false) z1 t1
        have hl : ((zipD xs ys).flatMap sameP).length ≤ line := by
          rw [sameP_len]
          exact Nat.le_trans (zipD_len xs ys) (of_decide_eq_true fys.1)
        simp only [mkList, if_pos hl, Bool.false_eq_true, if_false] at e
        rw [ev_bcall1 e]
        simp only [vBi, vBi1, lstOf, Option.bind, sameP_bools, sameP_all]
      rw [evSs_cons, ret_ev (and2 c1 c2), seq_ret]
    rw [evSs_cons, cond_ev i1]
    have in5 := isin1 (X := cxt Pg k) (rs := rs) (F := [some f, some d, none, none]) (S := S) (i := 0) (t := 5) rfl pf (by omega)
    have in4 := isin1 (X := cxt Pg k) (rs := rs) (F := [some f, some d, none, none]) (S := S) (i := 0) (t := 4) rfl pf (by omega)
    have jn5 := isin1 (X := cxt Pg k) (rs := rs) (F := [some f, some d, none, none]) (S := S) (i := 1) (t := 5) rfl pd (by omega)
    have jn4 := isin1 (X := cxt Pg k) (rs := rs) (F := [some f, some d, none, none]) (S := S) (i := 1) (t := 4) rfl pd (by omega)
    have o1 := or2 (cmp_bl (.inr rfl) in5 jn5) (cmp_bl (.inr rfl) in4 jn4)
    have flat : (kindIn (kD d) 5 || kindIn (kD d) 4) = false → (∀ ys, d ≠ .lst ys) → (∀ ys, d ≠ .tup ys) → ((if (kindIn (kD d) 5 || kindIn (kD d) 4) = true then evSs (cxt Pg k) rs
              [.cond (.bop false [.cmp .ne (.isin (.slot 0) [.cst (.ty 5)]) (.isin (.slot 1) [.cst (.ty 5)]), .cmp .ne (.isin (.slot 0) [.cst (.ty 4)]) (.isin (.slot 1) [.cst (.ty 4)])]) [.ret (.cst (.bl false))] [],
                .ret (.bop true [.cmp .eq (.bcall false .len [.slot 0]) (.bcall false .len [.slot 1]), .bcall false .all [.comp false (.call false Sm [.slot 2, .slot 3] [] []) [.mk (.tup [2, 3]) (.zip (.slot 0) (.slot 1)) []]]])]
              [some f, some d, none, none] S
            else evSs (cxt Pg k) rs [] [some f, some d, none, none] S).seq
          (evSs (cxt Pg k) rs
            [.cond (.bop false [.cmp .is (.slot 1) (.cst (.non)), .cmp .is (.slot 0) (.cst (.non))]) [.ret (.bop true [.cmp .is (.slot 1) (.cst (.non)), .cmp .is (.slot 0) (.cst (.non))])] [],
              .cond (.bop false [.cmp .ne (.isin (.slot 0) [.cst (.ty 1)]) (.isin (.slot 1) [.cst (.ty 1)]), .cmp .ne (.isin (.slot 0) [.cst (.ty 2)]) (.isin (.slot 1) [.cst (.ty 2)])]) [.ret (.cst (.bl false))] [],
              .ret (.bop true [.cmp .eq (.isin (.slot 0) [.cst (.ty 3)]) (.isin (.slot 1) [.cst (.ty 3)]), .cmp .eq (.slot 0) (.slot 1)])])).out = .ok (.bl (if isNon d || isNon f then isNon d && isNon f else if (kindIn (kD f) 1 != kindIn (kD d) 1) || (kindIn (kD f) 2 != kindIn (kD d) 2) then false else (kindIn (kD f) 3 == kindIn (kD d) 3) && D.eqv f d)) S := by
      intro h0 _ _
      rw [h0]
      simp only [Bool.false_eq_true, if_false]
      rw [evSs_nil, seq_nx, evSs_cons]
      have n1 : ev (cxt Pg k) rs (.cmp .is (.slot 1) (.cst (.non))) [some f, some d, none, none] S = .ok (.bl (isNon d)) S := is_non rfl
      have n0 : ev (cxt Pg k) rs (.cmp .is (.slot 0) (.cst (.non))) [some f, some d, none, none] S = .ok (.bl (isNon f)) S := is_non rfl
      rw [cond_ev (or2 n1 n0)]
      by_cases hn : (isNon d || isNon f) = true
      · rw [hn]
        simp only [if_true]
        rw [evSs_cons, ret_ev (and2 n1 n0)]
        rfl
      · rw [Bool.eq_false_iff.mpr hn]
        simp only [Bool.false_eq_true, if_false]
        rw [evSs_nil, seq_nx, evSs_cons]
        have k11 := isin1 (X := cxt Pg k) (rs := rs) (F := [some f, some d, none, none]) (S := S) (i := 0) (t := 1) rfl pf (by omega)
        have k12 := isin1 (X := cxt Pg k) (rs := rs) (F := [some f, some d, none, none]) (S := S) (i := 0) (t := 2) rfl pf (by omega)
        have k13 := isin1 (X := cxt Pg k) (rs := rs) (F := [some f, some d, none, none]) (S := S) (i := 0) (t := 3) rfl pf (by omega)
        have m11 := isin1 (X := cxt Pg k) (rs := rs) (F := [some f, some d, none, none]) (S := S) (i := 1) (t := 1) rfl pd (by omega)
        have m12 := isin1 (X := cxt Pg k) (rs := rs) (F := [some f, some d, none, none]) (S := S) (i := 1) (t := 2) rfl pd (by omega)
        have m13 := isin1 (X := cxt Pg k) (rs := rs) (F := [some f, some d, none, none]) (S := S) (i := 1) (t := 3) rfl pd (by omega)
        rw [cond_ev (or2 (cmp_bl (.inr rfl) k11 m11) (cmp_bl (.inr rfl) k12 m12))]
        simp only [show (CmpO.ne = CmpO.eq) = False from by simp, if_false]
        by_cases hb : (kindIn (kD f) 1 != kindIn (kD d) 1 || kindIn (kD f) 2 != kindIn (kD d) 2) = true
        · rw [hb]
          simp only [if_true]
          rw [evSs_cons, ret_ev ev_cst]
          rfl
        · rw [Bool.eq_false_iff.mpr hb]
          simp only [Bool.false_eq_true, if_false]
          rw [evSs_nil, seq_nx, evSs_cons]
          have q1 := cmp_bl (.inl rfl) k13 m13
          have q2 : ev (cxt Pg k) rs (.cmp .eq (.slot 0) (.slot 1)) [some f, some d, none, none] S = .ok (.bl (D.eqv f d)) S := by
            rw [ev_cmp (ev_slot rfl) (ev_slot rfl)]
            simp [vCmp, vEq, datOf, pf, pd, hf, hd]
          rw [ret_ev (and2 q1 q2)]
          rfl
    cases d with
    | lst ys =>
      simp only [kD, show (kindIn 5 5 || kindIn 5 4) = true from rfl, if_true]
      rw [evSs_cons, cond_ev o1]
      cases f with
      | lst xs =>
        simp only [kD, show (CmpO.ne = CmpO.eq) = False from by simp, if_false, bne_self_eq_false, Bool.or_self, Bool.false_eq_true]
        rw [evSs_nil, seq_nx, seqs true xs ys rfl rfl]
        simp only [seq_ret, OS.out, sameD]
      | non => rfl
      | bl b => rfl
      | int i => rfl
      | str x => rfl
      | tup xs => rfl
      | _ => cases pf
    | tup ys =>
      simp only [kD, show (kindIn 4 5 || kindIn 4 4) = true from rfl, if_true]
      rw [evSs_cons, cond_ev o1]
      cases f with
      | tup xs =>
        simp only [kD, show (CmpO.ne = CmpO.eq) = False from by simp, if_false, bne_self_eq_false, Bool.or_self, Bool.false_eq_true]
        rw [evSs_nil, seq_nx, seqs false xs ys rfl rfl]
        simp only [seq_ret, OS.out, sameD]
      | non => rfl
      | bl b => rfl
      | int i => rfl
      | str x => rfl
      | lst xs => rfl
      | _ => cases pf
    | non =>
      rw [flat rfl (by simp) (by simp)]
      simp only [sameD]
      cases f <;> first | rfl | cases pf
    | bl b =>
      rw [flat rfl (by simp) (by simp)]
      simp only [sameD]
      cases f <;> first | rfl | cases pf
    | int i =>
      rw [flat rfl (by simp) (by simp)]
      simp only [sameD]
      cases f <;> first | rfl | cases pf
    | str x =>
      rw [flat rfl (by simp) (by simp)]
      simp only [sameD]
      cases f <;> first | rfl | cases pf
    | _ => cases pd
theorem same_ev {F : Fr} {rs : List Nat} {S S0 : Sto} {as : List CE} {f d : D} {k : Nat} (hS : Pg.fd Sm = some ⟨po, 4, [], B_same Sm⟩) (hpo : po.length = 2) (ha : evL (cxt Pg k) rs as F S0 = .ok [f, d] S) (pf : f.plain = true) (pd : d.plain = true) (hw : d.fit = true) (hk : D.dep d < k) (hf : D.dep f ≤ 64) (hd : D.dep d ≤ 64) :
    ev (cxt Pg k) rs (.call false Sm as [] []) F S0 = .ok (.bl (sameD f d)) S := by
  rw [ev_call ha (cxt_pars hS) (by rw [hpo]; rfl)]
  show endCall S (callD Pg k Sm [f, d] _ S) = _
  rw [same_ok hS hpo k f d pf pd hw hk hf hd]
  exact end_ok rfl rfl
end
end OM
set_option Elab.async false
set_option linter.all false
set_option maxRecDepth 100000
set_option maxHeartbeats 1000000
/-! OmWp: what holds behind an expression, a statement: rules for the plain laws. -/
namespace OM
abbrev PrE := D → Sto → Prop
abbrev PrF := Fr → Sto → Prop
/-- it ends with Q, or with an exception and E -/
def Ok {α : Type} (o : Out α) (E : PrE) (Q : α → Sto → Prop) : Prop :=
  match o with
  | .ok a S => Q a S
  | .exc x S => E x S
  | .bad => False
structure Go where
  E : PrE
  B : PrF
  C : PrF
  R : PrE
def OkS (o : OS) (G : Go) (N : PrF) : Prop :=
  match o with
  | .nx F S => N F S
  | .ret d S => G.R d S
  | .brk F S => G.B F S
  | .cnt F S => G.C F S
  | .exc x _ S => G.E x S
  | .bad => False
def noE : PrE := fun _ _ => False
def noF : PrF := fun _ _ => False
def okO {α : Type} (o : Option α) (Q : α → Prop) : Prop := ∃ a, o = some a ∧ Q a
theorem Ok.mono {α : Type} {o : Out α} {E E' : PrE} {Q Q' : α → Sto → Prop} (h : Ok o E Q) (he : ∀ x S, E x S → E' x S) (hq : ∀ a S, Q a S → Q' a S) : Ok o E' Q' := by
  cases o with
  | ok a S => exact hq _ _ h
  | exc x S => exact he _ _ h
  | bad => exact h
theorem Ok.imp {α : Type} {o : Out α} {E : PrE} {Q Q' : α → Sto → Prop} (h : Ok o E Q) (hq : ∀ a S, Q a S → Q' a S) : Ok o E Q' := h.mono (fun _ _ z => z) hq
/-- from an equation -/
theorem Ok.of {α : Type} {o : Out α} {E : PrE} {Q : α → Sto → Prop} {a : α} {S : Sto} (h : o = .ok a S) (hq : Q a S) : Ok o E Q := by
  rw [h]
  exact hq
theorem Ok.ex {α : Type} {o : Out α} {Q : α → Sto → Prop} (h : Ok o noE Q) : ∃ a S, o = .ok a S ∧ Q a S := by
  cases o with
  | ok a S => exact ⟨a, S, rfl, h⟩
  | exc x S => exact h.elim
  | bad => exact h.elim
theorem Ok.eq {α : Type} {o : Out α} {a : α} {S : Sto} (h : Ok o noE fun b S' => b = a ∧ S' = S) : o = .ok a S := by
  obtain ⟨b, S', e, rfl, rfl⟩ := h.ex
  exact e
section
variable {α β : Type} {E : PrE} {Q : α → Sto → Prop}
@[simp] theorem ok_ok {a : α} {S : Sto} : Ok (.ok a S) E Q = Q a S := rfl
@[simp] theorem ok_bad : Ok (.bad : Out α) E Q = False := rfl
@[simp] theorem ok_exc {x : D} {S : Sto} : Ok (.exc x S : Out α) E Q = E x S := rfl
@[simp] theorem ok_bind {o : Out β} {f : β → Sto → Out α} : Ok (o.bind f) E Q = Ok o E fun b S => Ok (f b S) E Q := by cases o <;> rfl
@[simp] theorem okO_some {a : α} {P : α → Prop} : okO (some a) P = P a := by
  unfold okO
  simp
@[simp] theorem okO_none {P : α → Prop} : okO none P = False := by
  unfold okO
  simp
@[simp] theorem ok_okIf {c : Bool} {d : D} {S : Sto} {Q : PrE} : Ok (okIf c d S) E Q = (c = true ∧ Q d S) := by
  unfold okIf
  cases c <;> simp
@[simp] theorem ok_ite {c : Prop} [Decidable c] {p q : Out α} : Ok (if c then p else q) E Q = ((c → Ok p E Q) ∧ (¬c → Ok q E Q)) := by
  by_cases h : c <;> simp [h]
end
section
variable {X : Cxt} {rs : List Nat} {F : Fr} {S : Sto} {E : PrE} {Q : PrE}
@[simp] theorem w_slot {i : Nat} : Ok (ev X rs (.slot i) F S) E Q = okO F[i]? fun o => okO o fun d => Q d S := by
  simp only [ev]
  split
  · rename_i d h
    simp [h]
  · rename_i h
    unfold okO
    apply propext
    constructor
    · intro z; exact z.elim
    · rintro ⟨o, e1, d, rfl, _⟩
      exact absurd e1 (h d)
@[simp] theorem w_cst {d : D} : Ok (ev X rs (.cst d) F S) E Q = Q d S := by simp only [ev, ok_ok]
@[simp] theorem w_glo {g : Nat} : Ok (ev X rs (.glo g) F S) E Q = okO (X.glob g) fun d => Q d S := by
  simp only [ev]
  cases X.glob g <;> simp
@[simp] theorem w_bin {o : BinO} {a b : CE} : Ok (ev X rs (.bin o a b) F S) E Q = Ok (ev X rs a F S) E fun x S1 => Ok (ev X rs b F S1) E fun y S2 => Ok (vBin o x y S2) E Q := by simp only [ev, ok_bind]
@[simp] theorem w_cmp {o : CmpO} {a b : CE} : Ok (ev X rs (.cmp o a b) F S) E Q = Ok (ev X rs a F S) E fun x S1 => Ok (ev X rs b F S1) E fun y S2 => Ok (vCmp o x y S2) E Q := by simp only [ev, ok_bind]
def negD : D → Option Int
  | .int i => some (-i)
  | _ => none
@[simp] theorem w_neg {a : CE} : Ok (ev X rs (.neg a) F S) E Q = Ok (ev X rs a F S) E fun x S1 => okO (negD x) fun i => Q (.int i) S1 := by
  simp only [ev, ok_bind]
  congr 1
  funext x S1
  cases x <;> simp [negD]
def isBl : D → Option Bool
  | .bl b => some b
  | _ => none
@[simp] theorem w_chain {o o' : CmpO} {a b c : CE} : Ok (ev X rs (.chain o o' a b c) F S) E Q = Ok (ev X rs a F S) E fun x S1 => Ok (ev X rs b F S1) E fun y S2 => Ok (vCmp o x y S2) E fun t S3 => okO (isBl t) fun t => (t = true → Ok (ev X rs c F S3) E fun z S4 => Ok (vCmp o' y z S4) E Q) ∧ (t = false → Q (.bl false) S3) := by
  simp only [ev, ok_bind]
  congr 1
  funext x S1
  congr 1
  funext y S2
  congr 1
  funext t S3
  cases t with
  | bl b => cases b <;> simp [isBl]
  | _ => simp [isBl]
@[simp] theorem w_bop {k : Bool} {es : List CE} : Ok (ev X rs (.bop k es) F S) E Q = Ok (evB X rs k es F S) E Q := by simp only [ev]
@[simp] theorem w_B1 {k : Bool} {a : CE} : Ok (evB X rs k [a] F S) E Q = Ok (ev X rs a F S) E Q := by simp only [evB]
@[simp] theorem w_B2 {k : Bool} {a b : CE} {r : List CE} : Ok (evB X rs k (a :: b :: r) F S) E Q = Ok (ev X rs a F S) E fun x S1 => okO (truth S1 x) fun t => (t = k → Ok (evB X rs k (b :: r) F S1) E Q) ∧ (t ≠ k → Q x S1) := by
  simp only [evB, ok_bind]
  congr 1
  funext x S1
  cases truth S1 x with
  | none => simp
  | some t => cases t <;> cases k <;> simp
@[simp] theorem w_not {a : CE} : Ok (ev X rs (.not a) F S) E Q = Ok (ev X rs a F S) E fun x S1 => okO (truth S1 x) fun t => Q (.bl (!t)) S1 := by
  simp only [ev, ok_bind]
  congr 1
  funext x S1
  cases truth S1 x <;> simp
@[simp] theorem w_ite {c a b : CE} : Ok (ev X rs (.ite c a b) F S) E Q = Ok (ev X rs c F S) E fun x S1 => okO (truth S1 x) fun t => (t = true → Ok (ev X rs a F S1) E Q) ∧ (t = false → Ok (ev X rs b F S1) E Q) := by
  simp only [ev, ok_bind]
  congr 1
  funext x S1
  cases truth S1 x with
  | none => simp
  | some t => cases t <;> simp
@[simp] theorem w_L0 {Q : List D → Sto → Prop} : Ok (evL X rs [] F S) E Q = Q [] S := by simp only [evL, ok_ok]
@[simp] theorem w_L1 {e : CE} {es : List CE} {Q : List D → Sto → Prop} : Ok (evL X rs (e :: es) F S) E Q = Ok (ev X rs e F S) E fun x S1 => Ok (evL X rs es F S1) E fun xs S2 => Q (x :: xs) S2 := by simp only [evL, ok_bind, ok_ok]
/-- a call, its arguments told -/
def callX (X : Cxt) (rs : List Nat) (kp : Bool) (f : Nat) (xs : List D) (kn : List Nat) (zs : List D) (S : Sto) : Out D :=
  match X.pars f with
  | some (ps, dv) => match bindA dv ps xs kn zs with
    | some vs => doCall X rs kp f vs S
    | none => .bad
  | none => .bad
@[simp] theorem w_call {kp : Bool} {f : Nat} {as ka : List CE} {kn : List Nat} : Ok (ev X rs (.call kp f as kn ka) F S) E Q = Ok (evL X rs as F S) E fun xs S1 => Ok (evL X rs ka F S1) E fun zs S2 => Ok (callX X rs kp f xs kn zs S2) E Q := by
  simp only [ev, ok_bind]
  rfl
@[simp] theorem w_bcall {mu : Bool} {b : Bi} {as : List CE} : Ok (ev X rs (.bcall mu b as) F S) E Q = Ok (evL X rs as F S) E fun xs S1 => Ok (vBi mu b xs S1) E Q := by simp only [ev, ok_bind]
@[simp] theorem w_isin {a : CE} {ts : List CE} : Ok (ev X rs (.isin a ts) F S) E Q = Ok (ev X rs a F S) E fun x S1 => Ok (evL X rs ts F S1) E fun zs S2 => okO (isInst S2 x zs) fun b => Q (.bl b) S2 := by
  simp only [ev, ok_bind]
  congr 1
  funext x S1
  congr 1
  funext zs S2
  cases isInst S2 x zs <;> simp
@[simp] theorem w_bmeth {b : Bm} {o : CE} {as : List CE} : Ok (ev X rs (.bmeth b o as) F S) E Q = Ok (ev X rs o F S) E fun x S1 => (bmOk S1 b x = true ∧ Ok (evL X rs as F S1) E fun xs S2 => Ok (vBm rs b x xs S2) E Q) := by
  simp only [ev, ok_bind]
  congr 1
  funext x S1
  by_cases h : bmOk S1 b x = true <;> simp [h]
def methX (X : Cxt) (rs : List Nat) (kp : Bool) (m : Nat) (x : D) (S1 : Sto) (k : (List D → List Nat → List D → Sto → Out D) → Prop) : Prop :=
  okO (objOf S1 x) fun o => o.2.1.contains m = false ∧ okO (X.cl.mth o.1 m) fun g => k fun xs kn zs S3 => callX X rs kp g (x :: xs) kn zs S3
@[simp] theorem w_meth {kp : Bool} {o : CE} {m : Nat} {as ka : List CE} {kn : List Nat} : Ok (ev X rs (.meth kp o m as kn ka) F S) E Q = Ok (ev X rs o F S) E fun x S1 => methX X rs kp m x S1 fun call => Ok (evL X rs as F S1) E fun xs S2 => Ok (evL X rs ka F S2) E fun zs S3 => Ok (call xs kn zs S3) E Q := by
  simp only [ev, ok_bind]
  congr 1
  funext x S1
  unfold methX
  cases objOf S1 x with
  | none => simp
  | some p =>
    obtain ⟨c, ns, vs⟩ := p
    simp only [okO_some]
    cases X.cl.mth c m with
    | none => simp
    | some g =>
      simp only [okO_some]
      by_cases h : ns.contains m = true
      · simp only [h, if_true]
        simp
      · simp only [Bool.eq_false_iff.mpr h, if_false, ok_bind, true_and, Bool.false_eq_true]
        rfl
def mkC (X : Cxt) (rs : List Nat) (kp : Bool) (c g : Nat) (xs : List D) (kn : List Nat) (zs : List D) (S2 : Sto) : Out D := match X.pars g with
    | some (ps, dv) => match bindA dv ps (.ref S2.length :: xs) kn zs with
      | some vs => doMake X rs kp c g vs S2
      | none => .bad
    | none => .bad
def makeX (X : Cxt) (rs : List Nat) (kp : Bool) (c : Nat) (k : (List D → List Nat → List D → Sto → Out D) → Prop) : Prop :=
  okO (X.cl.ini c) fun g => k (mkC X rs kp c g)
@[simp] theorem w_make {kp : Bool} {c : Nat} {as ka : List CE} {kn : List Nat} : Ok (ev X rs (.make kp c as kn ka) F S) E Q = makeX X rs kp c fun call => Ok (evL X rs as F S) E fun xs S1 => Ok (evL X rs ka F S1) E fun zs S2 => Ok (call xs kn zs S2) E Q := by
  simp only [ev]
  unfold makeX
  cases X.cl.ini c with
  | none => simp
  | some g =>
    simp only [okO_some, ok_bind]
    rfl
/-- o.f, o told -/
def attrX (X : Cxt) (rs : List Nat) (f : Nat) (x : D) (S1 : Sto) : Out D := match objOf S1 x with
    | some (c, ns, vs) => match lookN f ns vs with
      | some d => if X.cl.fok c f then .ok d S1 else .bad
      | none => match X.cl.prp c f with
        | some g => match X.pars g with
          | some ([_], []) => nox (doCall X rs false g [x] S1)
          | _ => .bad
        | none => match X.cl.con c f with
          | some d => .ok d S1
          | none => .bad
    | none => .bad
@[simp] theorem w_attr {o : CE} {f : Nat} : Ok (ev X rs (.attr o f) F S) E Q = Ok (ev X rs o F S) E fun x S1 => Ok (attrX X rs f x S1) E Q := by
  simp only [ev, ok_bind]
  rfl
def ownX (X : Cxt) (rs : List Nat) (m : Nat) (x y : D) (S2 : Sto) : Out D := match objOf S2 y with
    | some (c, _, _) => match X.cl.mth c m with
      | some g => match X.pars g with
        | some ([_, _], []) => doCall X rs false g [y, x] S2
        | _ => .bad
      | none => .bad
    | none => .bad
@[simp] theorem w_own {neg : Bool} {a o : CE} {m : Nat} : Ok (ev X rs (.own neg a o m) F S) E Q = Ok (ev X rs a F S) E fun x S1 => Ok (ev X rs o F S1) E fun y S2 => Ok (ownX X rs m x y S2) E fun t S3 => okO (truth S3 t) fun b => Q (.bl (if neg then !b else b)) S3 := by
  simp only [ev, ok_bind]
  congr 1
  funext x S1
  congr 1
  funext y S2
  unfold ownX
  cases objOf S2 y with
  | none => simp
  | some p =>
    obtain ⟨c, ns, vs⟩ := p
    cases hm : X.cl.mth c m with
    | none => simp [hm]
    | some g =>
      simp only [hm]
      generalize X.pars g = z
      rcases z with _ | ⟨ps, dv⟩
      · simp
      · rcases ps with _ | ⟨p1, _ | ⟨p2, _ | ⟨p3, ps⟩⟩⟩ <;> rcases dv with _ | ⟨d1, dv⟩ <;> simp
        refine iff_of_eq ?_
        congr 1
        funext t S3
        cases truth S3 t <;> simp
@[simp] theorem w_dist {a : CE} : Ok (ev X rs (.dist a) F S) E Q = Ok (ev X rs a F S) E fun x S1 => okO ((seqOf S1 x).bind texts) fun ts => ts.length < 4000 ∧ Q (.int (distT [] ts)) S1 := by
  simp only [ev, ok_bind]
  congr 1
  funext x S1
  cases (seqOf S1 x).bind texts with
  | none => simp
  | some ts => by_cases h : ts.length < 4000 <;> simp [h]
@[simp] theorem w_D0 {st : List Bool} {Q : List D → Sto → Prop} : Ok (evD X rs [] st F S) E Q = Q [] S := by simp only [evD, ok_ok]
@[simp] theorem w_D1 {e : CE} {es : List CE} {st : List Bool} {Q : List D → Sto → Prop} : Ok (evD X rs (e :: es) st F S) E Q = Ok (ev X rs e F S) E fun x S1 => okO (if st.headD false then seqOf S1 x else some [x]) fun xs => Ok (evD X rs es st.tail F S1) E fun ys S2 => Q (xs ++ ys) S2 := by
  simp only [evD, ok_bind]
  congr 1
  funext x S1
  generalize (if st.headD false = true then seqOf S1 x else some [x]) = z
  cases z <;> simp
@[simp] theorem w_dsp {k mu : Bool} {es : List CE} {st : List Bool} : Ok (ev X rs (.dsp k mu es st) F S) E Q = Ok (evD X rs es st F S) E fun xs S1 => Ok (if k then okIf (decide (xs.length ≤ line)) (.tup xs) S1 else mkList mu xs S1) E Q := by simp only [ev, ok_bind]
@[simp] theorem w_idx {a b : CE} : Ok (ev X rs (.idx a b) F S) E Q = Ok (ev X rs a F S) E fun x S1 => Ok (ev X rs b F S1) E fun y S2 => Ok (vIdx x y S2) E Q := by simp only [ev, ok_bind]
@[simp] theorem w_O0 {Q : Option Int → Sto → Prop} : Ok (evO X rs [] F S) E Q = Q none S := by simp only [evO, ok_ok]
def intD : D → Option Int
  | .int i => some i
  | _ => none
@[simp] theorem w_O1 {e : CE} {es : List CE} {Q : Option Int → Sto → Prop} : Ok (evO X rs (e :: es) F S) E Q = Ok (ev X rs e F S) E fun x S1 => okO (intD x) fun i => Q (some i) S1 := by
  simp only [evO, ok_bind]
  congr 1
  funext x S1
  cases x <;> simp [intD]
@[simp] theorem w_sli {a : CE} {lo hi : List CE} : Ok (ev X rs (.sli a lo hi) F S) E Q = Ok (ev X rs a F S) E fun x S1 => Ok (evO X rs lo F S1) E fun l S2 => Ok (evO X rs hi F S2) E fun h S3 => Ok (vSli x l h S3) E Q := by simp only [ev, ok_bind]
@[simp] theorem w_tup {es : List CE} : Ok (ev X rs (.tup es) F S) E Q = Ok (evL X rs es F S) E fun xs S1 => xs.length ≤ line ∧ Q (.tup xs) S1 := by simp only [ev, ok_bind, ok_okIf, decide_eq_true_eq]
@[simp] theorem w_lst {mu : Bool} {es : List CE} : Ok (ev X rs (.lst mu es) F S) E Q = Ok (evL X rs es F S) E fun xs S1 => Ok (mkList mu xs S1) E Q := by simp only [ev, ok_bind]
@[simp] theorem w_comp {mu : Bool} {e : CE} {t : Tgt} {it : IT} {ifs : List CE} : Ok (ev X rs (.comp mu e [.mk t it ifs]) F S) E Q = Ok (evI X rs it F S) E fun s S1 => Ok (turns (turnF X rs e t ifs (wipeF F t.slots)) s s.len 0 [] S1) E fun xs S2 => Ok (mkList mu xs S2) E Q := by
  have h : ev X rs (.comp mu e [.mk t it ifs]) F S = ((evI X rs it F S).bind fun s S1 => turns (turnF X rs e t ifs (wipeF F t.slots)) s s.len 0 [] S1).bind fun xs S1 => mkList mu xs S1 := by
    simp only [ev, evG, ownOf, List.append_nil]
    rfl
  rw [h]
  simp only [ok_bind]
@[simp] theorem ok_mkF {xs : List D} : Ok (mkList false xs S) E Q = (xs.length ≤ line ∧ Q (.lst xs) S) := by
  unfold mkList
  by_cases h : xs.length ≤ line <;> simp [h]
@[simp] theorem ok_mkT {xs : List D} : Ok (mkList true xs S) E Q = (xs.length ≤ line ∧ Q (.ref S.length) (S ++ [.lst xs])) := by
  unfold mkList
  by_cases h : xs.length ≤ line <;> simp [h]
@[simp] theorem w_ov {e : CE} {Q : Src → Sto → Prop} : Ok (evI X rs (.ov e) F S) E Q = Ok (ev X rs e F S) E fun x S1 => okO (iterOf S1 x) fun s => Q s S1 := by
  simp only [evI, ok_bind]
  congr 1
  funext x S1
  cases iterOf S1 x <;> simp
@[simp] theorem w_rng1 {e : CE} {Q : Src → Sto → Prop} : Ok (evI X rs (.rng1 e) F S) E Q = Ok (ev X rs e F S) E fun x S1 => okO (intD x) fun j => (-4611686018427387904 ≤ j ∧ j < 4611686018427387904) ∧ Q (.items (rangeD 0 j.toNat)) S1 := by
  simp only [evI, ok_bind]
  congr 1
  funext x S1
  cases x with
  | int j =>
    simp only [intD, okO_some]
    by_cases h : (decide (-4611686018427387904 ≤ j) && decide (j < 4611686018427387904)) = true
    · rw [if_pos h]
      simp only [Bool.and_eq_true, decide_eq_true_eq] at h
      simp [h]
    · rw [if_neg h]
      simp only [Bool.and_eq_true, decide_eq_true_eq] at h
      simp [h]
  | _ => simp [intD]
end
/-! ### statements -/
section
variable {X : Cxt} {rs : List Nat} {F : Fr} {S : Sto} {G : Go} {N : PrF}
theorem OkS.mono {o : OS} {N' : PrF} (h : OkS o G N) (hn : ∀ F S, N F S → N' F S) : OkS o G N' := by
  cases o with
  | nx F S => exact hn _ _ h
  | _ => exact h
@[simp] theorem s_nx : OkS (.nx F S) G N = N F S := rfl
@[simp] theorem s_ret {d : D} : OkS (.ret d S) G N = G.R d S := rfl
@[simp] theorem s_bad : OkS .bad G N = False := rfl
@[simp] theorem s_exc {x : D} : OkS (.exc x F S) G N = G.E x S := rfl
@[simp] theorem s_run {α : Type} {o : Out α} {k : α → Sto → OS} : OkS (o.run F k) G N = Ok o G.E fun a S => OkS (k a S) G N := by cases o <;> rfl
@[simp] theorem s_nil : OkS (evSs X rs [] F S) G N = N F S := by simp only [evSs, s_nx]
@[simp] theorem s_cons {s : CS} {r : List CS} : OkS (evSs X rs (s :: r) F S) G N = OkS (evS X rs s F S) G fun F1 S1 => OkS (evSs X rs r F1 S1) G N := by
  simp only [evSs]
  cases evS X rs s F S <;> rfl
@[simp] theorem s_exp {e : CE} : OkS (evS X rs (.exp e) F S) G N = Ok (ev X rs e F S) G.E fun _ S1 => N F S1 := by simp only [evS, s_run, s_nx]
@[simp] theorem s_rete {e : CE} : OkS (evS X rs (.ret e) F S) G N = Ok (ev X rs e F S) G.E G.R := by
  simp only [evS, s_run, s_ret]
@[simp] theorem s_retN : OkS (evS X rs .retN F S) G N = G.R .non S := by simp only [evS, s_ret]
@[simp] theorem s_pas : OkS (evS X rs .pas F S) G N = N F S := by simp only [evS, s_nx]
@[simp] theorem s_brk : OkS (evS X rs .brk F S) G N = G.B F S := by
  simp only [evS]
  rfl
@[simp] theorem s_cnt : OkS (evS X rs .cnt F S) G N = G.C F S := by
  simp only [evS]
  rfl
@[simp] theorem s_set {i : Nat} {e : CE} : OkS (evS X rs (.set i e) F S) G N = Ok (ev X rs e F S) G.E fun d S1 => N (F.set i (some d)) S1 := by simp only [evS, s_run, s_nx]
@[simp] theorem s_unp {is : List Nat} {e : CE} : OkS (evS X rs (.unp is e) F S) G N = Ok (ev X rs e F S) G.E fun d S1 => okO (bindT (.tup is) d F) fun F2 => N F2 S1 := by
  simp only [evS, s_run]
  congr 1
  funext d S1
  cases bindT (.tup is) d F <;> simp
@[simp] theorem s_par {is : List Nat} {es : List CE} : OkS (evS X rs (.par is es) F S) G N = Ok (evL X rs es F S) G.E fun ds S1 => okO (setN F is ds) fun F2 => N F2 S1 := by
  simp only [evS, s_run]
  congr 1
  funext d S1
  cases setN F is d <;> simp
@[simp] theorem s_cond {c : CE} {a b : List CS} : OkS (evS X rs (.cond c a b) F S) G N = Ok (ev X rs c F S) G.E fun x S1 => okO (truth S1 x) fun t => (t = true → OkS (evSs X rs a F S1) G N) ∧ (t = false → OkS (evSs X rs b F S1) G N) := by
  simp only [evS, s_run]
  congr 1
  funext d S1
  cases truth S1 d with
  | none => simp
  | some t => cases t <;> simp
@[simp] theorem s_sub {o i e : CE} : OkS (evS X rs (.sub o i e) F S) G N = Ok (ev X rs e F S) G.E fun v S1 => Ok (ev X rs o F S1) G.E fun ov S2 => Ok (ev X rs i F S2) G.E fun iv S3 => okO (vSet rs ov iv v S3) fun S4 => N F S4 := by
  simp only [evS, s_run]
  congr 1
  funext v S1
  congr 1
  funext ov S2
  congr 1
  funext iv S3
  cases vSet rs ov iv v S3 <;> simp
def putX (X : Cxt) (rs : List Nat) (f : Nat) (ov v : D) (S2 : Sto) : Option Sto := match ov with
    | .ref n => match S2[n]? with
      | some (.obj c ns vs) => if X.cl.fok c f && decide (ns.length < 1000) && decide (ns.length = vs.length) && fitsIn rs n v then some (S2.set n (.obj c (putO f v ns vs).1 (putO f v ns vs).2)) else none
      | _ => none
    | _ => none
@[simp] theorem s_fld {o e : CE} {f : Nat} : OkS (evS X rs (.fld o f e) F S) G N = Ok (ev X rs e F S) G.E fun v S1 => Ok (ev X rs o F S1) G.E fun ov S2 => okO (putX X rs f ov v S2) fun S4 => N F S4 := by
  simp only [evS, s_run]
  congr 1
  funext v S1
  congr 1
  funext ov S2
  unfold putX
  cases ov with
  | ref n =>
    simp only
    cases S2[n]? with
    | none => simp
    | some z =>
      cases z with
      | obj c ns vs =>
        simp only
        by_cases h : (X.cl.fok c f && decide (ns.length < 1000) && decide (ns.length = vs.length) && fitsIn rs n v) = true
        · rw [if_pos h, if_pos h]
          simp
        · rw [if_neg h, if_neg h]
          simp
      | _ => simp
  | _ => simp
@[simp] theorem s_aug {i : Nat} {o : BinO} {e : CE} : OkS (evS X rs (.aug i o e) F S) G N = okO F[i]? fun x => okO x fun x => Ok (ev X rs e F S) G.E fun y S1 => okO (vAug o x y) fun z => N (F.set i (some z)) S1 := by
  simp only [evS]
  split
  · rename_i x h
    rw [h]
    simp only [okO_some, s_run]
    congr 1
    funext y S1
    cases vAug o x y <;> simp
  · rename_i h
    unfold okO
    apply propext
    constructor
    · intro z; exact z.elim
    · rintro ⟨o, e1, d, rfl, _⟩
      exact absurd e1 (h d)
def excX (c : Nat) (e : Nat × List Nat × Option Nat) (ds : List D) : Option D := if ds.length = e.2.2.toList.length then some (.exc c (e.2.2.toList ++ [e.1]) (ds ++ [.str e.2.1])) else none
@[simp] theorem s_raise {c : Nat} {as : List CE} : OkS (evS X rs (.raise c as) F S) G N = okO (X.cl.exn c) fun e => Ok (evL X rs as F S) G.E fun ds S1 => okO (excX c e ds) fun x => G.E x S1 := by
  simp only [evS]
  cases X.cl.exn c with
  | none => simp
  | some e =>
    obtain ⟨tag, tx, fld⟩ := e
    simp only [s_run, okO_some]
    congr 1
    funext ds S1
    unfold excX
    by_cases h : ds.length = fld.toList.length
    · simp [h]
    · simp [h]
/-- a loop's turn -/
def bodyF (X : Cxt) (rs : List Nat) (t : Tgt) (b : List CS) (d : D) (F2 : Fr) (S2 : Sto) : OS := match bindT t d F2 with
      | some F3 => evSs X rs b F3 S2
      | none => .bad
@[simp] theorem s_loop {t : Tgt} {it : IT} {b : List CS} : OkS (evS X rs (.loop t it b) F S) G N = Ok (evI X rs it F S) G.E fun s S1 => OkS (turnsS (bodyF X rs t b) s s.len 0 F S1) G N := by
  simp only [evS, s_run]
  rfl
@[simp] theorem s_body {t : Tgt} {b : List CS} {d : D} : OkS (bodyF X rs t b d F S) G N = okO (bindT t d F) fun F3 => OkS (evSs X rs b F3 S) G N := by
  unfold bodyF
  cases bindT t d F <;> simp
/-- a def's answer -/
theorem ok_out {o : OS} {E Q : PrE} (h : OkS o ⟨E, noF, noF, Q⟩ fun _ S => Q .non S) : Ok o.out E Q := by
  cases o <;> first | exact h | exact h.elim
/-- a loop over items -/
theorem turnsS_w {l : List D} {f : D → Fr → Sto → OS} (I : Nat → PrF) (step : ∀ i d F S, l[i]? = some d → I i F S → OkS (f d F S) ⟨G.E, N, I (i + 1), G.R⟩ (I (i + 1))) (done : ∀ F S, I l.length F S → N F S) :
    ∀ m i F S, i + m = l.length → I i F S → OkS (turnsS f (.items l) m i F S) G N
  | 0, i, F, S, e, h => by
    have e' : l[i]? = none := List.getElem?_eq_none_iff.mpr (by omega)
    simp only [turnsS, srcAt, e']
    rw [show i = l.length by omega] at h
    exact done _ _ h
  | m + 1, i, F, S, e, h => by
    have hi : i < l.length := by omega
    simp only [turnsS, srcAt, List.getElem?_eq_getElem hi]
    have s := step i l[i] F S (List.getElem?_eq_getElem hi) h
    cases hf : f l[i] F S with
    | nx F1 S1 =>
      rw [hf] at s
      exact turnsS_w I step done m (i + 1) F1 S1 (by omega) s
    | cnt F1 S1 =>
      rw [hf] at s
      exact turnsS_w I step done m (i + 1) F1 S1 (by omega) s
    | brk F1 S1 =>
      rw [hf] at s
      exact s
    | ret d S1 =>
      rw [hf] at s
      exact s
    | exc x F1 S1 =>
      rw [hf] at s
      exact s
    | bad =>
      rw [hf] at s
      exact s.elim
theorem loop_w {l : List D} {f : D → Fr → Sto → OS} {m : Nat} (I : Nat → PrF) (hm : m = l.length) (start : I 0 F S) (step : ∀ i d F S, l[i]? = some d → I i F S → OkS (f d F S) ⟨G.E, N, I (i + 1), G.R⟩ (I (i + 1))) (done : ∀ F S, I l.length F S → N F S) :
    OkS (turnsS f (.items l) m 0 F S) G N := turnsS_w I step done _ 0 _ _ (by rw [Nat.zero_add]; exact hm) start
end
/-! ### comprehensions -/
section
variable {X : Cxt} {rs : List Nat} {E : PrE}
theorem turns_w {l : List D} {f : D → Sto → Out (List D)} {Q : List D → Sto → Prop} (I : Nat → List D → Sto → Prop) (step : ∀ i d ys S, l[i]? = some d → I i ys S → Ok (f d S) noE fun zs S' => I (i + 1) (ys ++ zs) S') (done : ∀ ys S, I l.length ys S → Q ys S) :
    ∀ m i ys S, i + m = l.length → I i ys S → Ok (turns f (.items l) m i ys S) E Q
  | 0, i, ys, S, e, h => by
    have e' : l[i]? = none := List.getElem?_eq_none_iff.mpr (by omega)
    simp only [turns, srcAt, e', ok_ok]
    rw [show i = l.length by omega] at h
    exact done _ _ h
  | m + 1, i, ys, S, e, h => by
    have hi : i < l.length := by omega
    simp only [turns, srcAt, List.getElem?_eq_getElem hi]
    obtain ⟨zs, S', e1, h1⟩ := (step i l[i] ys S (List.getElem?_eq_getElem hi) h).ex
    rw [e1]
    exact turns_w I step done m (i + 1) (ys ++ zs) S' (by omega) h1
theorem comp_w {l : List D} {f : D → Sto → Out (List D)} {Q : List D → Sto → Prop} {S : Sto} {m : Nat} (I : Nat → List D → Sto → Prop) (hm : m = l.length) (start : I 0 [] S) (step : ∀ i d ys S, l[i]? = some d → I i ys S → Ok (f d S) noE fun zs S' => I (i + 1) (ys ++ zs) S') (done : ∀ ys S, I l.length ys S → Q ys S) :
    Ok (turns f (.items l) m 0 [] S) E Q := turns_w I step done _ 0 _ _ (by rw [Nat.zero_add]; exact hm) start
/-- no turn changes anything -/
theorem comp_p {l : List D} {f : D → Sto → Out (List D)} {Q : List D → Sto → Prop} {S : Sto} (g : D → List D) (step : ∀ d ∈ l, Ok (f d S) noE fun zs S' => zs = g d ∧ S' = S) (done : Q (l.flatMap g) S) :
    Ok (turns f (.items l) (Src.items l).len 0 [] S) E Q := by
  rw [show (Src.items l).len = l.length from rfl, turns_pure fun d hd => (step d hd).eq]
  exact done
theorem turn_w {e : CE} {t : Tgt} {Fw : Fr} {d : D} {S : Sto} {Q : List D → Sto → Prop} : Ok (turnF X rs e t [] Fw d S) E Q = okO (bindT t d Fw) fun F2 => Ok (ev X rs e F2 S) E fun v S' => Q [v] S' := by
  unfold turnF
  cases bindT t d Fw with
  | none => simp
  | some F2 => simp only [okO_some, evT, evG, ok_bind, ok_ok, if_true]
@[simp] theorem bindT_one {i : Nat} {d : D} {F : Fr} : bindT (.one i) d F = some (F.set i (some d)) := rfl
@[simp] theorem bindT_tup {is : List Nat} {ds : List D} {F : Fr} : bindT (.tup is) (.tup ds) F = setN F is ds := rfl
@[simp] theorem setN_nil {F : Fr} : setN F [] [] = some F := rfl
@[simp] theorem setN_cons {F : Fr} {i : Nat} {is : List Nat} {d : D} {ds : List D} : setN F (i :: is) (d :: ds) = setN (F.set i (some d)) is ds := rfl
end
end OM
set_option Elab.async false
set_option linter.all false
set_option maxRecDepth 100000
set_option maxHeartbeats 0
namespace Fd
open OM
def f_Signature___contains__ : FD := ⟨[19, 23], 2, [], [
  .ret (.bop true [.isin (.slot 1) [.cst (.ty 3)], .cmp .inn (.slot 1) (.meth false (.slot 0) 24 [] [] [])])]⟩
def f_Signature___init__ : FD := ⟨[19, 11, 20], 4, [.tup []], [
  .cond (.not (.call false 7 [.slot 1, .cst (.int 1), .glo 0] [] [])) [
    .raise 2 [.cst (.str [115, 111, 114, 116, 115])]] [],
  .cond (.bop false [.not (.isin (.slot 2) [.cst (.ty 5), .cst (.ty 4)]), .not (.bcall false .all [.comp false (.call false 12 [.slot 3] [] []) [.mk (.one 3) (.ov (.slot 2)) []]])]) [
    .raise 2 [.cst (.str [99, 111, 110, 115, 116, 114, 117, 99, 116, 111, 114, 115])]] [],
  .cond (.not (.call false 7 [.bin .add (.dsp false false [.slot 1] [true]) (.comp false (.idx (.slot 3) (.cst (.int 0))) [.mk (.one 3) (.ov (.slot 2)) []]), .cst (.int 1), .bin .add (.glo 0) (.glo 1)] [] [])) [
    .raise 2 [.cst (.str [99, 111, 110, 115, 116, 114, 117, 99, 116, 111, 114, 115])]] [],
  .cond (.cmp .gt (.bcall false .len [.slot 2]) (.glo 1)) [
    .raise 2 [.cst (.str [99, 111, 110, 115, 116, 114, 117, 99, 116, 111, 114, 115])]] [],
  .fld (.slot 0) 21 (.bcall false .tuple [.slot 1]),
  .fld (.slot 0) 22 (.bcall false .tuple [.slot 2])]⟩
def f_Signature_arity : FD := ⟨[19, 23], 4, [], [
  .cond (.cmp .inn (.slot 1) (.attr (.slot 0) 21)) [
    .ret (.cst (.int 0))] [],
  .loop (.tup [2, 3]) (.ov (.attr (.slot 0) 22)) [
    .cond (.cmp .eq (.slot 2) (.slot 1)) [
      .ret (.slot 3)] []],
  .raise 3 [.slot 1]]⟩
def f_Signature_sorts : FD := ⟨[19], 1, [], [
  .ret (.attr (.slot 0) 21)]⟩
def f_Signature_words : FD := ⟨[19], 3, [], [
  .ret (.bin .add (.dsp false false [.attr (.slot 0) 21] [true]) (.comp false (.slot 1) [.mk (.tup [1, 2]) (.ov (.attr (.slot 0) 22)) []]))]⟩
def f__law_bag : FD := ⟨[0], 1, [], [
  .ret (.lst true [.bcall false .list [.sli (.slot 0) [] [.cst (.int 63)]], .cst (.int 0), .cst (.int 0), .cst (.int 5633)])]⟩
def f__law_deep_trees_so : FD := ⟨[], 6, [], [
  .set 0 (.tup [.cst (.str [118]), .cst (.int 0)]),
  .loop (.one 1) (.rng1 (.cst (.int 39))) [
    .set 0 (.tup [.cst (.str [102]), .slot 0])],
  .set 2 (.make false 0 [.lst false [.cst (.str [118])], .lst false [.tup [.cst (.str [102]), .cst (.int 1)]]] [] []),
  .par [3, 4] [.make false 0 [.lst false [.cst (.str [118])], .lst false [.tup [.cst (.str [102]), .cst (.int 1)], .tup [.cst (.str [103]), .cst (.int 2)]]] [] [], .tup [.cst (.str [118]), .cst (.int 0)]],
  .set 5 (.lst false [.call false 8 [.slot 3, .tup [.cst (.str [103]), .slot 4, .idx (.slot 0) (.cst (.int 1))]] [] [], .call false 8 [.slot 3, .tup [.cst (.str [103]), .idx (.slot 0) (.cst (.int 1)), .slot 4]] [] [], .call false 8 [.slot 3, .tup [.cst (.str [103]), .slot 4, .slot 0]] [] [], .call false 8 [.slot 3, .tup [.cst (.str [103]), .slot 0, .slot 4]] [] [], .call false 8 [.slot 3, .tup [.cst (.str [103]), .slot 4, .tup [.cst (.str [103]), .slot 4, .idx (.slot 0) (.cst (.int 1))]]] [] []]),
  .ret (.call false 26 [.bin .add (.lst false [.call false 8 [.slot 2, .slot 0] [] [], .call false 11 [] [14] [.slot 0], .call false 8 [.slot 2, .tup [.cst (.str [102]), .slot 0]] [] []]) (.slot 5), .lst false [.cst (.bl true), .cst (.int 40), .cst (.bl false), .cst (.bl true), .cst (.bl true), .cst (.bl false), .cst (.bl false), .cst (.bl false)]] [] [])]⟩
def f__law_depth : FD := ⟨[15], 2, [], [
  .ret (.ite (.isin (.idx (.slot 0) (.cst (.int 1))) [.cst (.ty 2)]) (.cst (.int 1)) (.bin .add (.cst (.int 1)) (.bcall false .max [.comp false (.call false 35 [.slot 1] [] []) [.mk (.one 1) (.ov (.sli (.slot 0) [.cst (.int 1)] [])) []]])))]⟩
def f__law_field : FD := ⟨[28], 1, [], [
  .cond (.cmp .inn (.xat (.slot 0) 29) (.tup [.cst (.str [73, 110, 118, 97, 108, 105, 100, 87, 111, 114, 100]), .cst (.str [73, 110, 118, 97, 108, 105, 100, 67, 111, 109, 109, 97, 110, 100]), .cst (.str [85, 110, 107, 110, 111, 119, 110, 87, 111, 114, 100])])) [
    .ret (.xat (.slot 0) 23)] [],
  .cond (.cmp .inn (.xat (.slot 0) 29) (.tup [.cst (.str [73, 110, 118, 97, 108, 105, 100, 84, 114, 101, 101]), .cst (.str [73, 110, 118, 97, 108, 105, 100, 77, 97, 114, 107, 115]), .cst (.str [73, 110, 118, 97, 108, 105, 100, 82, 111, 119]), .cst (.str [73, 110, 118, 97, 108, 105, 100, 83, 105, 100, 101]), .cst (.str [73, 110, 118, 97, 108, 105, 100, 83, 97, 121, 105, 110, 103]), .cst (.str [73, 110, 118, 97, 108, 105, 100, 80, 97, 116, 116, 101, 114, 110])])) [
    .ret (.xat (.slot 0) 2)] [],
  .cond (.cmp .inn (.xat (.slot 0) 29) (.tup [.cst (.str [73, 110, 118, 97, 108, 105, 100, 87, 105, 115, 104]), .cst (.str [85, 110, 107, 110, 111, 119, 110, 87, 105, 115, 104])])) [
    .ret (.xat (.slot 0) 30)] [],
  .cond (.cmp .inn (.xat (.slot 0) 29) (.tup [.cst (.str [84, 111, 111, 77, 97, 110, 121]), .cst (.str [70, 117, 108, 108])])) [
    .ret (.xat (.slot 0) 31)] [],
  .cond (.cmp .inn (.xat (.slot 0) 29) (.tup [.cst (.str [65, 108, 114, 101, 97, 100, 121, 77, 97, 114, 107, 101, 100]), .cst (.str [78, 111, 116, 65, 108, 108, 111, 119, 101, 100]), .cst (.str [85, 110, 107, 110, 111, 119, 110, 84, 114, 101, 101])])) [
    .ret (.xat (.slot 0) 14)] [],
  .cond (.cmp .inn (.xat (.slot 0) 29) (.tup [.cst (.str [73, 110, 118, 97, 108, 105, 100, 84, 101, 120, 116]), .cst (.str [73, 110, 118, 97, 108, 105, 100, 80, 97, 103, 101])])) [
    .ret (.ite (.cmp .eq (.xat (.slot 0) 29) (.cst (.str [73, 110, 118, 97, 108, 105, 100, 84, 101, 120, 116]))) (.xat (.slot 0) 32) (.xat (.slot 0) 33))] [],
  .cond (.cmp .inn (.xat (.slot 0) 29) (.tup [.cst (.str [73, 110, 118, 97, 108, 105, 100, 83, 105, 103, 110, 97, 116, 117, 114, 101]), .cst (.str [73, 110, 118, 97, 108, 105, 100, 76, 105, 109, 105, 116])])) [
    .ret (.ite (.cmp .eq (.xat (.slot 0) 29) (.cst (.str [73, 110, 118, 97, 108, 105, 100, 83, 105, 103, 110, 97, 116, 117, 114, 101]))) (.xat (.slot 0) 34) (.xat (.slot 0) 2))] [],
  .ret (.ite (.cmp .eq (.xat (.slot 0) 29) (.cst (.str [82, 101, 102, 117, 115, 101, 100]))) (.xat (.slot 0) 35) (.cst (.non)))]⟩
def f__law_names : FD := ⟨[3, 7], 9, [], [
  .set 2 (.cst (.str [97, 98, 99, 100, 101, 102, 103, 104, 105, 106, 107, 108, 109, 110, 111, 112, 113, 114, 115, 116, 117, 118, 119, 120, 121, 122])),
  .set 3 (.bmeth .join (.cst (.str [])) [.comp false (.call false 25 [.slot 0, .slot 2] [] []) [.mk (.one 4) (.rng1 (.call false 24 [.slot 0, .cst (.int 7)] [] [])) []]]),
  .unp [5, 6] (.tup [.call false 24 [.slot 0, .bin .add (.bcall false .len [.slot 3]) (.cst (.int 1))] [] [], .call false 24 [.slot 0, .cst (.int 26)] [] []]),
  .set 7 (.comp false (.bin .add (.bin .add (.sli (.slot 3) [] [.slot 5]) (.idx (.slot 2) (.bin .mod (.bcall false .int [.bin .add (.slot 6) (.bin .mul (.cst (.int 3)) (.slot 4))]) (.cst (.int 26))))) (.sli (.slot 3) [.slot 5] [])) [.mk (.one 4) (.rng1 (.slot 1)) []]),
  .ret (.comp false (.ite (.cmp .inn (.slot 8) (.tup [.cst (.str [97, 108, 108]), .cst (.str [110, 111, 110, 101]), .cst (.str [115, 111, 109, 101]), .cst (.str [110, 111, 116]), .cst (.str [97, 110, 100]), .cst (.str [111, 114])])) (.bin .add (.slot 8) (.cst (.str [120]))) (.slot 8)) [.mk (.one 8) (.ov (.slot 7)) []])]⟩
def f__law_of : FD := ⟨[3, 18], 2, [], [
  .ret (.idx (.slot 1) (.call false 24 [.slot 0, .bcall false .len [.slot 1]] [] []))]⟩
def f__law_path : FD := ⟨[3, 15], 5, [], [
  .par [2, 3] [.lst true [], .slot 1],
  .loop (.one 4) (.rng1 (.cst (.int 4))) [
    .cond (.bop true [.not (.isin (.idx (.slot 3) (.cst (.int 1))) [.cst (.ty 2)]), .cmp .gt (.call false 24 [.slot 0, .cst (.int 3)] [] []) (.cst (.int 0))]) [
      .exp (.bmeth .append (.slot 2) [.bin .add (.cst (.int 1)) (.call false 24 [.slot 0, .bin .sub (.bcall false .len [.slot 3]) (.cst (.int 1))] [] [])]),
      .set 3 (.idx (.slot 3) (.idx (.slot 2) (.neg (.cst (.int 1)))))] []],
  .ret (.slot 2)]⟩
def f__law_pull : FD := ⟨[3, 7], 5, [], [
  .cond (.bop true [.cmp .eq (.idx (.slot 0) (.cst (.int 2))) (.cst (.int 0)), .cmp .lt (.idx (.slot 0) (.cst (.int 1))) (.bcall false .len [.idx (.slot 0) (.cst (.int 0))])]) [
    .set 2 (.idx (.idx (.slot 0) (.cst (.int 0))) (.idx (.slot 0) (.cst (.int 1)))),
    .sub (.slot 0) (.cst (.int 1)) (.bin .add (.idx (.slot 0) (.cst (.int 1))) (.cst (.int 1))),
    .cond (.cmp .ge (.slot 2) (.bin .pow (.cst (.int 10)) (.cst (.int 18)))) [
      .sub (.slot 0) (.cst (.int 2)) (.slot 2)] [
      .sub (.slot 0) (.cst (.int 3)) (.bin .mod (.bcall false .int [.bin .add (.bin .add (.bin .mul (.idx (.slot 0) (.cst (.int 3))) (.cst (.int 60383))) (.bin .mul (.bin .mod (.bcall false .int [.slot 2]) (.cst (.int 2147482817))) (.cst (.int 7577)))) (.cst (.int 61))]) (.cst (.int 2147483587)))]] [],
  .cond (.cmp .gt (.idx (.slot 0) (.cst (.int 2))) (.cst (.int 0))) [
    .set 3 (.bin .mod (.bcall false .int [.idx (.slot 0) (.cst (.int 2))]) (.slot 1)),
    .sub (.slot 0) (.cst (.int 2)) (.bin .fdiv (.idx (.slot 0) (.cst (.int 2))) (.slot 1)),
    .ret (.slot 3)] [],
  .set 4 (.idx (.slot 0) (.cst (.int 3))),
  .sub (.slot 0) (.cst (.int 3)) (.bin .mod (.bcall false .int [.bin .add (.bin .add (.bin .mul (.slot 4) (.slot 4)) (.bin .mul (.slot 4) (.cst (.int 27793)))) (.cst (.int 1302017))]) (.cst (.int 2147483587))),
  .ret (.bin .mod (.bcall false .int [.bin .add (.bin .fdiv (.idx (.slot 0) (.cst (.int 3))) (.cst (.int 73))) (.bin .mul (.bin .mod (.bcall false .int [.idx (.slot 0) (.cst (.int 3))]) (.cst (.int 7927))) (.cst (.int 53)))]) (.slot 1))]⟩
def f__law_same : FD := ⟨[8, 9], 4, [], [
  .cond (.isin (.slot 1) [.cst (.ty 5), .cst (.ty 4)]) [
    .cond (.bop false [.cmp .ne (.isin (.slot 0) [.cst (.ty 5)]) (.isin (.slot 1) [.cst (.ty 5)]), .cmp .ne (.isin (.slot 0) [.cst (.ty 4)]) (.isin (.slot 1) [.cst (.ty 4)])]) [
      .ret (.cst (.bl false))] [],
    .ret (.bop true [.cmp .eq (.bcall false .len [.slot 0]) (.bcall false .len [.slot 1]), .bcall false .all [.comp false (.call false 26 [.slot 2, .slot 3] [] []) [.mk (.tup [2, 3]) (.zip (.slot 0) (.slot 1)) []]]])] [],
  .cond (.bop false [.cmp .is (.slot 1) (.cst (.non)), .cmp .is (.slot 0) (.cst (.non))]) [
    .ret (.bop true [.cmp .is (.slot 1) (.cst (.non)), .cmp .is (.slot 0) (.cst (.non))])] [],
  .cond (.bop false [.cmp .ne (.isin (.slot 0) [.cst (.ty 1)]) (.isin (.slot 1) [.cst (.ty 1)]), .cmp .ne (.isin (.slot 0) [.cst (.ty 2)]) (.isin (.slot 1) [.cst (.ty 2)])]) [
    .ret (.cst (.bl false))] [],
  .ret (.bop true [.cmp .eq (.isin (.slot 0) [.cst (.ty 3)]) (.isin (.slot 1) [.cst (.ty 3)]), .cmp .eq (.slot 0) (.slot 1)])]⟩
def f__law_sig : FD := ⟨[5], 1, [], [
  .ret (.make false 0 [.idx (.slot 0) (.cst (.int 0)), .idx (.slot 0) (.cst (.int 1))] [] [])]⟩
def f__law_spec : FD := ⟨[3, 4], 6, [], [
  .set 2 (.call false 29 [.slot 0, .cst (.int 9)] [] []),
  .set 3 (.sli (.slot 2) [] [.bin .add (.cst (.int 1)) (.bin .fdiv (.call false 24 [.slot 0, .cst (.int 3)] [] []) (.cst (.int 2)))]),
  .set 4 (.comp false (.tup [.idx (.slot 2) (.bin .add (.cst (.int 2)) (.slot 5)), .bin .add (.cst (.int 1)) (.call false 24 [.slot 0, .cst (.int 2)] [] [])]) [.mk (.one 5) (.rng1 (.call false 24 [.slot 0, .cst (.int 3)] [] [])) []]),
  .ret (.tup [.slot 3, .slot 4, .bcall false .sorted [.sli (.slot 2) [.cst (.int 5)] [.bin .add (.cst (.int 6)) (.call false 24 [.slot 0, .slot 1] [] [])]]])]⟩
def f__law_tree : FD := ⟨[3, 5, 6], 6, [], [
  .cond (.bop false [.cmp .lt (.slot 2) (.cst (.int 2)), .cmp .eq (.idx (.slot 1) (.cst (.int 1))) (.lst false []), .cmp .eq (.call false 24 [.slot 0, .cst (.int 4)] [] []) (.cst (.int 0))]) [
    .ret (.tup [.call false 25 [.slot 0, .idx (.slot 1) (.cst (.int 0))] [] [], .call false 25 [.slot 0, .lst false [.cst (.int 0), .cst (.int 1), .cst (.int 2), .call false 24 [.slot 0, .bin .pow (.cst (.int 10)) (.cst (.int 29))] [] []]] [] []])] [],
  .unp [3, 4] (.call false 25 [.slot 0, .idx (.slot 1) (.cst (.int 1))] [] []),
  .ret (.bin .add (.tup [.slot 3]) (.bcall false .tuple [.comp false (.call false 32 [.slot 0, .slot 1, .bin .sub (.slot 2) (.cst (.int 1))] [] []) [.mk (.one 5) (.rng1 (.slot 4)) []]]))]⟩
def f__law_with : FD := ⟨[15, 16, 17], 4, [], [
  .cond (.cmp .eq (.slot 1) (.lst false [])) [
    .ret (.slot 2)] [],
  .set 3 (.idx (.slot 1) (.cst (.int 0))),
  .ret (.bin .add (.bin .add (.sli (.slot 0) [] [.slot 3]) (.tup [.call false 33 [.idx (.slot 0) (.slot 3), .sli (.slot 1) [.cst (.int 1)] [], .slot 2] [] []])) (.sli (.slot 0) [.bin .add (.slot 3) (.cst (.int 1))] []))]⟩
def f_are_words : FD := ⟨[25, 26, 27], 4, [], [
  .cond (.bop false [.not (.isin (.slot 0) [.cst (.ty 5), .cst (.ty 4)]), .not (.chain .le .le (.slot 1) (.bcall false .len [.slot 0]) (.slot 2))]) [
    .ret (.cst (.bl false))] [],
  .cond (.not (.bcall false .all [.comp false (.call false 6 [.slot 3] [] []) [.mk (.one 3) (.ov (.slot 0)) []]])) [
    .ret (.cst (.bl false))] [],
  .ret (.cmp .eq (.dist (.slot 0)) (.bcall false .len [.slot 0]))]⟩
def f_check_tree : FD := ⟨[1, 2], 2, [], [
  .cond (.not (.call false 8 [.slot 0, .slot 1] [] [])) [
    .raise 1 [.slot 1]] []]⟩
def f_depth_of : FD := ⟨[14], 2, [], [
  .ret (.ite (.call false 10 [.slot 0] [] []) (.cst (.int 1)) (.bin .add (.cst (.int 1)) (.bcall false .max [.comp false (.call false 11 [.slot 1] [] []) [.mk (.one 1) (.ov (.sli (.slot 0) [.cst (.int 1)] [])) []]])))]⟩
def f_is_name : FD := ⟨[14], 1, [], [
  .ret (.isin (.idx (.slot 0) (.cst (.int 1))) [.cst (.ty 2)])]⟩
def f_is_pair : FD := ⟨[2], 1, [], [
  .cond (.bop false [.not (.isin (.slot 0) [.cst (.ty 4)]), .cmp .ne (.bcall false .len [.slot 0]) (.cst (.int 2))]) [
    .ret (.cst (.bl false))] [],
  .ret (.bop true [.call false 6 [.idx (.slot 0) (.cst (.int 0))] [] [], .call false 5 [.idx (.slot 0) (.cst (.int 1))] [] [], .chain .le .le (.cst (.int 1)) (.idx (.slot 0) (.cst (.int 1))) (.cst (.int 2))])]⟩
def f_is_tree : FD := ⟨[1, 2, 10], 4, [.int 40], [
  .cond (.bop false [.not (.isin (.slot 1) [.cst (.ty 4)]), .cmp .lt (.bcall false .len [.slot 1]) (.cst (.int 2)), .not (.isin (.idx (.slot 1) (.cst (.int 0))) [.cst (.ty 3)]), .cmp .lt (.slot 2) (.cst (.int 1))]) [
    .ret (.cst (.bl false))] [],
  .cond (.cmp .inn (.idx (.slot 1) (.cst (.int 0))) (.attr (.slot 0) 11)) [
    .ret (.bop true [.cmp .eq (.bcall false .len [.slot 1]) (.cst (.int 2)), .call false 5 [.idx (.slot 1) (.cst (.int 1))] [] [], .cmp .ge (.idx (.slot 1) (.cst (.int 1))) (.cst (.int 0))])] [],
  .cond (.bop false [.own true (.idx (.slot 1) (.cst (.int 0))) (.slot 0) 12, .cmp .ne (.meth false (.slot 0) 13 [.idx (.slot 1) (.cst (.int 0))] [] []) (.bin .sub (.bcall false .len [.slot 1]) (.cst (.int 1)))]) [
    .ret (.cst (.bl false))] [],
  .ret (.bcall false .all [.comp false (.call false 8 [.slot 0, .slot 3, .bin .sub (.slot 2) (.cst (.int 1))] [] []) [.mk (.one 3) (.ov (.sli (.slot 1) [.cst (.int 1)] [])) []]])]⟩
def f_is_whole : FD := ⟨[2], 1, [], [
  .ret (.bop true [.isin (.slot 0) [.cst (.ty 2)], .not (.isin (.slot 0) [.cst (.ty 1)])])]⟩
def f_is_word : FD := ⟨[2], 2, [], [
  .cond (.bop false [.not (.isin (.slot 0) [.cst (.ty 3)]), .not (.chain .le .le (.cst (.int 1)) (.bcall false .len [.slot 0]) (.glo 2)), .cmp .inn (.slot 0) (.glo 3)]) [
    .ret (.cst (.bl false))] [],
  .ret (.bcall false .all [.comp false (.cmp .inn (.slot 1) (.cst (.str [97, 98, 99, 100, 101, 102, 103, 104, 105, 106, 107, 108, 109, 110, 111, 112, 113, 114, 115, 116, 117, 118, 119, 120, 121, 122]))) [.mk (.one 1) (.ov (.slot 0)) []]])]⟩
def f_law : FD := ⟨[0], 11, [], [
  .set 1 (.call true 23 [.slot 0] [] []),
  .loop (.one 2) (.rng1 (.cst (.int 6))) [
    .set 3 (.call false 30 [.slot 1, .cst (.int 1)] [] []),
    .unp [7, 8] (.tup [.call false 31 [.slot 3] [] [], .call false 32 [.slot 1, .slot 3, .bin .add (.cst (.int 1)) (.call false 24 [.slot 1, .cst (.int 4)] [] [])] [] []]),
    .cond (.not (.call false 26 [.lst false [.call false 8 [.slot 7, .slot 8] [] [], .call false 11 [.slot 8] [] [], .call false 9 [.slot 7, .slot 8] [] []], .lst false [.cst (.bl true), .call false 35 [.slot 8] [] [], .cst (.non)]] [] [])) [
      .ret (.cst (.bl false))] [],
    .set 4 (.idx (.idx (.slot 3) (.cst (.int 0))) (.cst (.int 0))),
    .set 5 (.lst false [.cst (.non), .cst (.int 3), .slot 4, .tup [], .tup [.slot 4], .tup [.slot 4, .bin .sub (.cst (.int 0)) (.cst (.int 1))], .tup [.slot 4, .cst (.bl true)], .tup [.slot 4, .cst (.str [48])], .lst false [.slot 4, .cst (.int 0)], .tup [.slot 4, .cst (.int 0), .cst (.int 0)], .tup [.cst (.str [90, 122]), .cst (.int 0)], .tup [.slot 4, .cst (.non)], .tup [.cst (.int 3), .cst (.int 0)], .tup [.slot 4, .tup [.slot 4, .cst (.int 0)]]]),
    .cond (.cmp .ne (.idx (.slot 3) (.cst (.int 1))) (.lst false [])) [
      .unp [9, 10] (.idx (.idx (.slot 3) (.cst (.int 1))) (.cst (.int 0))),
      .set 5 (.bin .add (.slot 5) (.lst false [.tup [.slot 9], .tup [.slot 9, .cst (.int 0)], .tup [.slot 9, .lst false [.slot 4, .cst (.int 0)]], .bin .add (.tup [.slot 9]) (.bin .mul (.tup [.tup [.slot 4, .cst (.int 0)]]) (.bin .sub (.cst (.int 3)) (.slot 10))), .bin .add (.tup [.slot 9]) (.bin .mul (.tup [.tup [.slot 4, .cst (.int 0)]]) (.cst (.int 3)))]))] [],
    .set 6 (.call false 33 [.slot 8, .call false 34 [.slot 1, .slot 8] [] [], .call false 25 [.slot 1, .slot 5] [] []] [] []),
    .cond (.not (.call false 26 [.lst false [.call false 8 [] [1, 2] [.slot 7, .slot 6], .why (.call false 9 [.slot 7, .slot 6] [] [])], .lst false [.cst (.bl false), .tup [.cst (.str [73, 110, 118, 97, 108, 105, 100, 84, 114, 101, 101]), .slot 6]]] [] [])) [
      .ret (.cst (.bl false))] []],
  .ret (.call false 36 [] [] [])]⟩
end Fd
set_option Elab.async false
set_option linter.all false
set_option maxRecDepth 100000
set_option maxHeartbeats 1000000
/-! OmGen: the program's small defs, the laws' own helpers. -/
namespace OM
section
variable {Pg : Prog} {k : Nat} {rs : List Nat} {S : Sto}
@[simp] theorem cxt_glob {k : Nat} : (cxt Pg k).glob = Pg.gl := rfl
@[simp] theorem cxt_cl {k : Nat} : (cxt Pg k).cl = Pg.cl := rfl
theorem callX_eq {f : Nat} {G : FD} {kn : List Nat} {xs zs vs : List D} {kp : Bool} (hf : Pg.fd f = some G) (hb : bindA G.dv G.ps xs kn zs = some vs) : callX (cxt Pg (k + 1)) rs kp f xs kn zs S = if kp then G.run (cxt Pg k) vs rs S else endCall S (G.run (cxt Pg k) vs (S.length :: rs) S) := by
  unfold callX
  rw [cxt_pars hf]
  simp only [hb]
  unfold doCall
  show (if kp then callD Pg (k + 1) f vs rs S else endCall S (callD Pg (k + 1) f vs (S.length :: rs) S)) = _
  rw [callD_succ hf, callD_succ hf]
/-- what a call leaves, told of its end -/
def EndE (S : Sto) (E : PrE) : PrE := fun x S' => x.lo S.length = true ∧ E x (S'.take S.length)
def EndQ (S : Sto) (Q : PrE) : PrE := fun d S' => okO (frz1 S' S.length d) fun d' => Q d' (S'.take S.length)
theorem ok_end {o : Out D} {E Q : PrE} (h : Ok o (EndE S E) (EndQ S Q)) : Ok (endCall S o) E Q := by
  unfold endCall
  cases o with
  | ok d S' =>
    obtain ⟨d', e, q⟩ := h
    simp only [e]
    exact q
  | exc x S' =>
    obtain ⟨h1, h2⟩ := h
    simp only [h1, if_true]
    exact h2
  | bad => exact h
theorem call_w {f : Nat} {G : FD} {kn : List Nat} {xs zs vs : List D} {E Q : PrE} (hf : Pg.fd f = some G) (hb : bindA G.dv G.ps xs kn zs = some vs) (h : OkS (evSs (cxt Pg k) (S.length :: rs) G.body (vs.map some ++ List.replicate (G.ns - vs.length) none) S) ⟨EndE S E, noF, noF, EndQ S Q⟩ fun _ S' => EndQ S Q .non S') : Ok (callX (cxt Pg (k + 1)) rs false f xs kn zs S) E Q := by
  rw [callX_eq hf hb]
  simp only [Bool.false_eq_true, if_false]
  exact ok_end (ok_out h)
/-- a value that names no cells -/
theorem endQ_lo {S' : Sto} {Q : PrE} {d : D} (h : d.lo S.length = true) (hl : S'.length = S.length) (q : Q d S') : EndQ S Q d S' := by
  have e : frz1 S' S.length d = some d := by
    unfold frz1
    cases d with
    | ref n =>
      unfold D.lo at h
      simp only [if_pos (of_decide_eq_true h)]
    | _ => simp only [if_pos h]
  refine ⟨d, e, ?_⟩
  rw [← hl, List.take_length]
  exact q
@[simp] theorem endQ_self {Q : PrE} {d : D} : EndQ S Q d S = okO (frz1 S S.length d) fun d' => Q d' S := by
  unfold EndQ
  rw [List.take_length]
@[simp] theorem endE_self {E : PrE} {d : D} : EndE S E d S = (d.lo S.length = true ∧ E d S) := by
  unfold EndE
  rw [List.take_length]
@[simp] theorem frz_bl {b : Bool} {m : Nat} : frz1 S m (.bl b) = some (.bl b) := rfl
@[simp] theorem frz_int {b : Int} {m : Nat} : frz1 S m (.int b) = some (.int b) := rfl
@[simp] theorem frz_str {b : List Nat} {m : Nat} : frz1 S m (.str b) = some (.str b) := rfl
@[simp] theorem frz_non {m : Nat} : frz1 S m .non = some .non := rfl
@[simp] theorem tr_bl {b : Bool} : truth S (.bl b) = some b := rfl
@[simp] theorem ii_1 {x : D} {t : Nat} (h : x.plain = true) (ht : t < 7) : isInst S x [.ty t] = some (kindIn (kD x) t) := by simp [isInst, kind_plain h, ht]
@[simp] theorem ii_2 {x : D} {t u : Nat} (h : x.plain = true) (ht : t < 7) (hu : u < 7) : isInst S x [.ty t, .ty u] = some (kindIn (kD x) t || kindIn (kD x) u) := by simp [isInst, kind_plain h, ht, hu]
@[simp] theorem l07 : (0 : Nat) < 7 := by decide
@[simp] theorem l17 : (1 : Nat) < 7 := by decide
@[simp] theorem l27 : (2 : Nat) < 7 := by decide
@[simp] theorem l37 : (3 : Nat) < 7 := by decide
@[simp] theorem l47 : (4 : Nat) < 7 := by decide
@[simp] theorem l57 : (5 : Nat) < 7 := by decide
@[simp] theorem l67 : (6 : Nat) < 7 := by decide
@[simp] theorem ii_l1 {x : List D} {t : Nat} (ht : t < 7) : isInst S (.lst x) [.ty t] = some (kindIn 5 t) := by simp [isInst, kindOf, ht]
@[simp] theorem ii_l2 {x : List D} {t u : Nat} (ht : t < 7) (hu : u < 7) : isInst S (.lst x) [.ty t, .ty u] = some (kindIn 5 t || kindIn 5 u) := by simp [isInst, kindOf, ht, hu]
@[simp] theorem ii_t1 {x : List D} {t : Nat} (ht : t < 7) : isInst S (.tup x) [.ty t] = some (kindIn 4 t) := by simp [isInst, kindOf, ht]
@[simp] theorem ii_t2 {x : List D} {t u : Nat} (ht : t < 7) (hu : u < 7) : isInst S (.tup x) [.ty t, .ty u] = some (kindIn 4 t || kindIn 4 u) := by simp [isInst, kindOf, ht, hu]
@[simp] theorem pl_str {x : List Nat} : (D.str x).plain = true := by simp only [D.plain]
@[simp] theorem pl_int {x : Int} : (D.int x).plain = true := by simp only [D.plain]
@[simp] theorem pl_bl {x : Bool} : (D.bl x).plain = true := by simp only [D.plain]
@[simp] theorem pl_non : D.non.plain = true := by simp only [D.plain]
@[simp] theorem pl_tup {ds : List D} : (D.tup ds).plain = plainL ds := by simp only [D.plain]
@[simp] theorem pl_lst {ds : List D} : (D.lst ds).plain = plainL ds := by simp only [D.plain]
@[simp] theorem pl_nil : plainL [] = true := rfl
@[simp] theorem pl_cons {d : D} {ds : List D} : plainL (d :: ds) = (d.plain && plainL ds) := by simp only [plainL]
@[simp] theorem kD_str {x : List Nat} : kD (D.str x) = 3 := rfl
@[simp] theorem kD_int {x : Int} : kD (D.int x) = 2 := rfl
@[simp] theorem kD_bl {x : Bool} : kD (D.bl x) = 1 := rfl
@[simp] theorem kD_non : kD D.non = 0 := rfl
@[simp] theorem kD_tup {x : List D} : kD (D.tup x) = 4 := rfl
@[simp] theorem kD_lst {x : List D} : kD (D.lst x) = 5 := rfl
@[simp] theorem ki_01 : kindIn 0 1 = false := rfl
@[simp] theorem ki_02 : kindIn 0 2 = false := rfl
@[simp] theorem ki_03 : kindIn 0 3 = false := rfl
@[simp] theorem ki_04 : kindIn 0 4 = false := rfl
@[simp] theorem ki_05 : kindIn 0 5 = false := rfl
@[simp] theorem ki_06 : kindIn 0 6 = false := rfl
@[simp] theorem ki_11 : kindIn 1 1 = true := rfl
@[simp] theorem ki_12 : kindIn 1 2 = true := rfl
@[simp] theorem ki_13 : kindIn 1 3 = false := rfl
@[simp] theorem ki_14 : kindIn 1 4 = false := rfl
@[simp] theorem ki_15 : kindIn 1 5 = false := rfl
@[simp] theorem ki_16 : kindIn 1 6 = false := rfl
@[simp] theorem ki_21 : kindIn 2 1 = false := rfl
@[simp] theorem ki_22 : kindIn 2 2 = true := rfl
@[simp] theorem ki_23 : kindIn 2 3 = false := rfl
@[simp] theorem ki_24 : kindIn 2 4 = false := rfl
@[simp] theorem ki_25 : kindIn 2 5 = false := rfl
@[simp] theorem ki_26 : kindIn 2 6 = false := rfl
@[simp] theorem ki_31 : kindIn 3 1 = false := rfl
@[simp] theorem ki_32 : kindIn 3 2 = false := rfl
@[simp] theorem ki_33 : kindIn 3 3 = true := rfl
@[simp] theorem ki_34 : kindIn 3 4 = false := rfl
@[simp] theorem ki_35 : kindIn 3 5 = false := rfl
@[simp] theorem ki_36 : kindIn 3 6 = false := rfl
@[simp] theorem ki_41 : kindIn 4 1 = false := rfl
@[simp] theorem ki_42 : kindIn 4 2 = false := rfl
@[simp] theorem ki_43 : kindIn 4 3 = false := rfl
@[simp] theorem ki_44 : kindIn 4 4 = true := rfl
@[simp] theorem ki_45 : kindIn 4 5 = false := rfl
@[simp] theorem ki_46 : kindIn 4 6 = false := rfl
@[simp] theorem ki_51 : kindIn 5 1 = false := rfl
@[simp] theorem ki_52 : kindIn 5 2 = false := rfl
@[simp] theorem ki_53 : kindIn 5 3 = false := rfl
@[simp] theorem ki_54 : kindIn 5 4 = false := rfl
@[simp] theorem ki_55 : kindIn 5 5 = true := rfl
@[simp] theorem ki_56 : kindIn 5 6 = false := rfl
@[simp] theorem ki_61 : kindIn 6 1 = false := rfl
@[simp] theorem ki_62 : kindIn 6 2 = false := rfl
@[simp] theorem ki_63 : kindIn 6 3 = false := rfl
@[simp] theorem ki_64 : kindIn 6 4 = false := rfl
@[simp] theorem ki_65 : kindIn 6 5 = false := rfl
@[simp] theorem ki_66 : kindIn 6 6 = true := rfl
@[simp] theorem isBl_bl {b : Bool} : isBl (.bl b) = some b := rfl
@[simp] theorem negD_int {b : Int} : negD (.int b) = some (-b) := rfl
@[simp] theorem intD_int {b : Int} : intD (.int b) = some b := rfl
theorem Ok.cut {o : Out D} {E Q : PrE} {S1 : Sto} (a : D) (h : Ok o noE fun b S' => b = a ∧ S' = S1) (hq : Q a S1) : Ok o E Q := Ok.of h.eq hq
/-! values -/
@[simp] theorem cmp_lt {i j : Int} : vCmp .lt (.int i) (.int j) S = .ok (.bl (decide (i < j))) S := rfl
@[simp] theorem cmp_le {i j : Int} : vCmp .le (.int i) (.int j) S = .ok (.bl (decide (i ≤ j))) S := rfl
@[simp] theorem cmp_gt {i j : Int} : vCmp .gt (.int i) (.int j) S = .ok (.bl (decide (j < i))) S := rfl
@[simp] theorem cmp_ge {i j : Int} : vCmp .ge (.int i) (.int j) S = .ok (.bl (decide (j ≤ i))) S := rfl
theorem cmp_eq {d e : D} (hd : d.plain = true) (he : e.plain = true) (h1 : D.dep d ≤ 64) (h2 : D.dep e ≤ 64) : vCmp .eq d e S = .ok (.bl (D.eqv d e)) S := by
  simp [vCmp, vEq, datOf, hd, he, h1, h2]
theorem cmp_ne {d e : D} (hd : d.plain = true) (he : e.plain = true) (h1 : D.dep d ≤ 64) (h2 : D.dep e ≤ 64) : vCmp .ne d e S = .ok (.bl (!D.eqv d e)) S := by
  simp [vCmp, vEq, datOf, hd, he, h1, h2]
@[simp] theorem cmp_eqi {i j : Int} : vCmp .eq (.int i) (.int j) S = .ok (.bl (i == j)) S := by
  rw [cmp_eq rfl rfl (Nat.zero_le _) (Nat.zero_le _)]
  simp [D.eqv]
@[simp] theorem cmp_nei {i j : Int} : vCmp .ne (.int i) (.int j) S = .ok (.bl (!(i == j))) S := by
  rw [cmp_ne rfl rfl (Nat.zero_le _) (Nat.zero_le _)]
  simp [D.eqv]
@[simp] theorem cmp_eqs {i j : List Nat} : vCmp .eq (.str i) (.str j) S = .ok (.bl (i == j)) S := by
  rw [cmp_eq rfl rfl (Nat.zero_le _) (Nat.zero_le _)]
  simp [D.eqv]
@[simp] theorem cmp_is {d : D} : vCmp .is d .non S = .ok (.bl (isNon d)) S := rfl
@[simp] theorem cmp_isn {d : D} : vCmp .isn d .non S = .ok (.bl (!isNon d)) S := rfl
@[simp] theorem flat_strs : ∀ ws : List (List Nat), flatL (ws.map D.str) = true
  | [] => rfl
  | w :: ws => by simp [flatL, D.flat, flat_strs ws]
@[simp] theorem mem_strs (x : List Nat) : ∀ ws : List (List Nat), memD (.str x) (ws.map D.str) = ws.contains x
  | [] => rfl
  | w :: ws => by
    simp only [List.map_cons, memD, mem_strs x ws, D.eqv, List.contains_cons]
    congr 1
    rw [Bool.eq_iff_iff, beq_iff_eq, beq_iff_eq]
    exact eq_comm
@[simp] theorem cmp_inT {x : List Nat} {ds : List D} : vCmp .inn (.str x) (.tup ds) S = if flatL ds then .ok (.bl (memD (.str x) ds)) S else .bad := by
  simp only [vCmp, vIn, seqOf, D.flat, Bool.true_and]
  cases flatL ds <;> rfl
@[simp] theorem cmp_inL {x : List Nat} {ds : List D} : vCmp .inn (.str x) (.lst ds) S = if flatL ds then .ok (.bl (memD (.str x) ds)) S else .bad := by
  simp only [vCmp, vIn, seqOf, D.flat, Bool.true_and]
  cases flatL ds <;> rfl
@[simp] theorem cmp_ninT {x : List Nat} {ds : List D} : vCmp .nin (.str x) (.tup ds) S = if flatL ds then .ok (.bl (!memD (.str x) ds)) S else .bad := by
  simp only [vCmp, vIn, seqOf, D.flat, Bool.true_and]
  cases flatL ds <;> rfl
theorem infix_one (c : Nat) : ∀ l : List Nat, isInfixB [c] l = l.contains c
  | [] => rfl
  | d :: l => by
    unfold isInfixB
    rw [infix_one c l, List.contains_cons]
    simp [List.isPrefixOf]
@[simp] theorem cmp_inS {c : Nat} {l : List Nat} : vCmp .inn (.str [c]) (.str l) S = .ok (.bl (l.contains c)) S := by
  simp only [vCmp, vIn, infix_one]
@[simp] theorem bin_add {i j : Int} : vBin .add (.int i) (.int j) S = .ok (.int (i + j)) S := rfl
@[simp] theorem bin_sub {i j : Int} : vBin .sub (.int i) (.int j) S = .ok (.int (i - j)) S := rfl
@[simp] theorem bin_adds {a b : List Nat} : vBin .add (.str a) (.str b) S = okIf (decide (a.length + b.length ≤ line)) (.str (a ++ b)) S := rfl
@[simp] theorem bin_addt {a b : List D} : vBin .add (.tup a) (.tup b) S = okIf (decide (a.length + b.length ≤ line)) (.tup (a ++ b)) S := rfl
@[simp] theorem bin_addl {a b : List D} : vBin .add (.lst a) (.lst b) S = okIf (decide (a.length + b.length ≤ line)) (.lst (a ++ b)) S := rfl
@[simp] theorem bi_lenS {mu : Bool} {x : List Nat} : vBi mu .len [.str x] S = .ok (.int x.length) S := rfl
@[simp] theorem bi_lenT {mu : Bool} {x : List D} : vBi mu .len [.tup x] S = .ok (.int x.length) S := rfl
@[simp] theorem bi_lenL {mu : Bool} {x : List D} : vBi mu .len [.lst x] S = .ok (.int x.length) S := rfl
@[simp] theorem bi_tupL {mu : Bool} {x : List D} : vBi mu .tuple [.lst x] S = .ok (.tup x) S := rfl
@[simp] theorem bi_tupT {mu : Bool} {x : List D} : vBi mu .tuple [.tup x] S = .ok (.tup x) S := rfl
@[simp] theorem bi_int {mu : Bool} {i : Int} : vBi mu .int [.int i] S = .ok (.int i) S := rfl
theorem bools_map {α : Type} {f : α → Bool} : ∀ x : List α, bools (x.map fun c => D.bl (f c)) = some (x.map f)
  | [] => rfl
  | c :: x => by
    simp only [List.map_cons, bools]
    rw [bools_map x]
    rfl
theorem flat_map1 {α β γ : Type} {f : α → β} {h : β → γ} : ∀ x : List α, (x.map f).flatMap (fun d => [h d]) = x.map fun c => h (f c)
  | [] => rfl
  | c :: x => by
    simp only [List.map_cons, List.flatMap_cons, List.singleton_append]
    rw [flat_map1 x]
theorem flat_map0 {α γ : Type} {h : α → γ} : ∀ x : List α, x.flatMap (fun d => [h d]) = x.map h
  | [] => rfl
  | c :: x => by
    simp only [List.map_cons, List.flatMap_cons, List.singleton_append]
    rw [flat_map0 x]
@[simp] theorem bi_all {mu : Bool} {α : Type} {f : α → Bool} {x : List α} : vBi mu .all [.lst (x.map fun c => D.bl (f c))] S = .ok (.bl (x.all f)) S := by
  simp only [vBi, vBi1, lstOf, Option.bind, bools_map]
  rw [List.all_map]
  rfl
@[simp] theorem src_len {l : List D} : (Src.items l).len = l.length := rfl
@[simp] theorem it_s {x : List Nat} : iterOf S (.str x) = some (.items (x.map fun c => .str [c])) := rfl
@[simp] theorem it_t {x : List D} : iterOf S (.tup x) = some (.items x) := rfl
@[simp] theorem it_l {x : List D} : iterOf S (.lst x) = some (.items x) := rfl
@[simp] theorem sl_one {i : Nat} : (Tgt.one i).slots = [i] := rfl
@[simp] theorem sl_tup {is : List Nat} : (Tgt.tup is).slots = is := rfl
@[simp] theorem wi_nil {F : Fr} : wipeF F [] = F := rfl
@[simp] theorem wi_cons {F : Fr} {v : Nat} {vs : List Nat} : wipeF F (v :: vs) = (wipeF F vs).set v none := rfl
theorem comp_m {l : List D} {f : D → Sto → Out (List D)} {Q : List D → Sto → Prop} {E : PrE} {m : Nat} (g : D → D) (hm : m = l.length) (step : ∀ d ∈ l, Ok (f d S) noE fun zs S' => zs = [g d] ∧ S' = S) (done : Q (l.map g) S) : Ok (turns f (.items l) m 0 [] S) E Q := by
  subst hm
  refine comp_p (E := E) (fun d => [g d]) step ?_
  rw [flat_map0]
  exact done

theorem comp_mm {α : Type} {x : List α} {h : α → D} {f : D → Sto → Out (List D)} {Q : List D → Sto → Prop} {E : PrE} {m : Nat} (g : α → D) (hm : m = x.length) (step : ∀ c ∈ x, Ok (f (h c) S) noE fun zs S' => zs = [g c] ∧ S' = S) (done : Q (x.map g) S) : Ok (turns f (.items (x.map h)) m 0 [] S) E Q := by
  have hm : m = (x.map h).length := by rw [List.length_map, hm]
  subst hm
  refine turns_w (fun i ys S' => ys = (x.take i).map g ∧ S' = S) (fun i d ys S' hd ⟨e1, e2⟩ => ?_) (fun ys S' ⟨e1, e2⟩ => ?_) _ 0 _ _ (Nat.zero_add _) ⟨rfl, rfl⟩
  · subst e2
    rw [List.getElem?_map] at hd
    obtain ⟨c, hc, rfl⟩ := Option.map_eq_some_iff.mp hd
    refine (step c (List.mem_of_getElem? hc)).imp fun zs S'' ⟨e3, e4⟩ => ⟨?_, e4⟩
    rw [e1, e3, List.take_add_one, hc, List.map_append]
    rfl
  · rw [e1, e2, List.length_map, List.take_length]
    exact done
local macro_rules
  | `(tactic| decreasing_trivial) => `(tactic| simp only [ok_ok, ok_bad, ok_exc, ok_bind, okO_some, okO_none, ok_okIf, ok_ite, w_slot, w_cst, w_glo, w_bin, w_cmp, w_neg, w_chain, w_bop, w_B1, w_B2, w_not, w_ite, w_L0, w_L1, w_call, w_bcall, w_isin, w_bmeth, w_meth, w_make, w_attr, w_own, w_dist, w_D0, w_D1, w_dsp, w_idx, w_O0, w_O1, w_sli, w_tup, w_lst, w_comp, ok_mkF, ok_mkT, w_ov, w_rng1, s_nx, s_ret, s_bad, s_exc, s_run, s_nil, s_cons, s_exp, s_rete, s_retN, s_pas, s_brk, s_cnt, s_set, s_unp, s_par, s_cond, s_sub, s_fld, s_aug, s_raise, s_loop, s_body, bindT_one, bindT_tup, setN_nil, setN_cons, cxt_glob, cxt_cl, endQ_self, endE_self, frz_bl, frz_int, frz_str, frz_non, tr_bl, ii_1, ii_2, l07, l17, l27, l37, l47, l57, l67, ii_l1, ii_l2, ii_t1, ii_t2, pl_str, pl_int, pl_bl, pl_non, pl_tup, pl_lst, pl_nil, pl_cons, kD_str, kD_int, kD_bl, kD_non, kD_tup, kD_lst, ki_01, ki_02, ki_03, ki_04, ki_05, ki_06, ki_11, ki_12, ki_13, ki_14, ki_15, ki_16, ki_21, ki_22, ki_23, ki_24, ki_25, ki_26, ki_31, ki_32, ki_33, ki_34, ki_35, ki_36, ki_41, ki_42, ki_43, ki_44, ki_45, ki_46, ki_51, ki_52, ki_53, ki_54, ki_55, ki_56, ki_61, ki_62, ki_63, ki_64, ki_65, ki_66, isBl_bl, negD_int, intD_int, cmp_lt, cmp_le, cmp_gt, cmp_ge, cmp_eqi, cmp_nei, cmp_eqs, cmp_is, cmp_isn, flat_strs, mem_strs, cmp_inT, cmp_inL, cmp_ninT, cmp_inS, bin_add, bin_sub, bin_adds, bin_addt, bin_addl, bi_lenS, bi_lenT, bi_lenL, bi_tupL, bi_tupT, bi_int, bi_all, src_len, it_s, it_t, it_l, sl_one, sl_tup, wi_nil, wi_cons, turn_w, List.length_cons, List.length_nil, List.length_map, List.getElem?_cons_succ, List.getElem?_cons_zero, List.set_cons_zero, List.set_cons_succ, List.map_cons, List.map_nil, List.replicate_succ, List.replicate_zero, List.nil_append, List.cons_append, List.append_nil, List.tail_cons, List.headD_cons, List.head?_cons, Nat.reduceSub, Nat.reduceAdd, reduceIte, Bool.not_true, Bool.not_false, true_implies, forall_const, and_true, true_and, implies_true, reduceCtorEq, ne_eq, not_true_eq_false, not_false_eq_true, false_implies, and_self, if_true, if_false, Bool.false_eq_true, Bool.true_eq_false, okO_none, Option.some.injEq, Bool.or_true, Bool.true_or, Bool.false_or, Bool.or_false, Bool.and_true, Bool.true_and, Bool.and_false, Bool.false_and, decide_true, decide_false, eq_self])
local macro_rules
  | `(tactic| decreasing_trivial_pre_omega) => `(tactic| simp only [ok_ok, ok_bad, ok_exc, ok_bind, okO_some, okO_none, ok_okIf, ok_ite, w_slot, w_cst, w_glo, w_bin, w_cmp, w_neg, w_chain, w_bop, w_B1, w_B2, w_not, w_ite, w_L0, w_L1, w_call, w_bcall, w_isin, w_bmeth, w_meth, w_make, w_attr, w_own, w_dist, w_D0, w_D1, w_dsp, w_idx, w_O0, w_O1, w_sli, w_tup, w_lst, w_comp, ok_mkF, ok_mkT, w_ov, w_rng1, s_nx, s_ret, s_bad, s_exc, s_run, s_nil, s_cons, s_exp, s_rete, s_retN, s_pas, s_brk, s_cnt, s_set, s_unp, s_par, s_cond, s_sub, s_fld, s_aug, s_raise, s_loop, s_body, bindT_one, bindT_tup, setN_nil, setN_cons, cxt_glob, cxt_cl, endQ_self, endE_self, frz_bl, frz_int, frz_str, frz_non, tr_bl, ii_1, ii_2, l07, l17, l27, l37, l47, l57, l67, ii_l1, ii_l2, ii_t1, ii_t2, pl_str, pl_int, pl_bl, pl_non, pl_tup, pl_lst, pl_nil, pl_cons, kD_str, kD_int, kD_bl, kD_non, kD_tup, kD_lst, ki_01, ki_02, ki_03, ki_04, ki_05, ki_06, ki_11, ki_12, ki_13, ki_14, ki_15, ki_16, ki_21, ki_22, ki_23, ki_24, ki_25, ki_26, ki_31, ki_32, ki_33, ki_34, ki_35, ki_36, ki_41, ki_42, ki_43, ki_44, ki_45, ki_46, ki_51, ki_52, ki_53, ki_54, ki_55, ki_56, ki_61, ki_62, ki_63, ki_64, ki_65, ki_66, isBl_bl, negD_int, intD_int, cmp_lt, cmp_le, cmp_gt, cmp_ge, cmp_eqi, cmp_nei, cmp_eqs, cmp_is, cmp_isn, flat_strs, mem_strs, cmp_inT, cmp_inL, cmp_ninT, cmp_inS, bin_add, bin_sub, bin_adds, bin_addt, bin_addl, bi_lenS, bi_lenT, bi_lenL, bi_tupL, bi_tupT, bi_int, bi_all, src_len, it_s, it_t, it_l, sl_one, sl_tup, wi_nil, wi_cons, turn_w, List.length_cons, List.length_nil, List.length_map, List.getElem?_cons_succ, List.getElem?_cons_zero, List.set_cons_zero, List.set_cons_succ, List.map_cons, List.map_nil, List.replicate_succ, List.replicate_zero, List.nil_append, List.cons_append, List.append_nil, List.tail_cons, List.headD_cons, List.head?_cons, Nat.reduceSub, Nat.reduceAdd, reduceIte, Bool.not_true, Bool.not_false, true_implies, forall_const, and_true, true_and, implies_true, reduceCtorEq, ne_eq, not_true_eq_false, not_false_eq_true, false_implies, and_self, if_true, if_false, Bool.false_eq_true, Bool.true_eq_false, okO_none, Option.some.injEq, Bool.or_true, Bool.true_or, Bool.false_or, Bool.or_false, Bool.and_true, Bool.true_and, Bool.and_false, Bool.false_and, decide_true, decide_false, eq_self, *])

def isWholeD : D → Bool
  | .int _ => true
  | _ => false
theorem whole_c {v : D} (hf : Pg.fd 5 = some Fd.f_is_whole) (hv : v.plain = true) : callX (cxt Pg (k + 1)) rs false 5 [v] [] [] S = .ok (.bl (isWholeD v)) S := by
  refine Ok.eq (call_w (vs := [v]) hf rfl ?_)
  simp only [Fd.f_is_whole]
  decreasing_trivial_pre_omega
  cases v <;> simp_all [kD, kindIn, isWholeD, D.plain]
def letters : List Nat := [97, 98, 99, 100, 101, 102, 103, 104, 105, 106, 107, 108, 109, 110, 111, 112, 113, 114, 115, 116, 117, 118, 119, 120, 121, 122]
def reserved : List (List Nat) := [[97, 108, 108], [110, 111, 110, 101], [115, 111, 109, 101], [110, 111, 116], [97, 110, 100], [111, 114]]
theorem res_fold : [D.str [97, 108, 108], D.str [110, 111, 110, 101], D.str [115, 111, 109, 101], D.str [110, 111, 116], D.str [97, 110, 100], D.str [111, 114]] = reserved.map D.str := rfl
theorem let_fold : [97, 98, 99, 100, 101, 102, 103, 104, 105, 106, 107, 108, 109, 110, 111, 112, 113, 114, 115, 116, 117, 118, 119, 120, 121, 122] = letters := rfl
def okWord (x : List Nat) : Bool := (decide (1 ≤ x.length) && decide (x.length ≤ 8)) && !reserved.contains x && x.all fun c => letters.contains c
def isWordD : D → Bool
  | .str x => okWord x
  | _ => false
theorem word_c {v : D} (hf : Pg.fd 6 = some Fd.f_is_word) (g2 : Pg.gl 2 = some (.int 8)) (g3 : Pg.gl 3 = some (.tup (reserved.map D.str))) (hv : v.plain = true) : callX (cxt Pg (k + 1)) rs false 6 [v] [] [] S = .ok (.bl (isWordD v)) S := by
  refine Ok.eq (call_w (vs := [v]) hf rfl ?_)
  simp only [Fd.f_is_word, s_cons, s_cond, let_fold]
  by_cases hs : ∃ x, v = .str x
  · obtain ⟨x, rfl⟩ := hs
    refine Ok.cut (S1 := S) (.bl (!((decide (1 ≤ x.length) && decide (x.length ≤ 8)) && !reserved.contains x))) ?_ ?_
    · decreasing_trivial_pre_omega
      generalize reserved.contains x = c
      have e1 : decide (1 ≤ (x.length : Int)) = decide (1 ≤ x.length) := decide_eq_decide.mpr (by omega)
      have e2 : decide ((x.length : Int) ≤ 8) = decide (x.length ≤ 8) := decide_eq_decide.mpr (by omega)
      rw [e1, e2]
      generalize decide (1 ≤ x.length) = p
      generalize decide (x.length ≤ 8) = q
      cases p <;> cases q <;> cases c <;> simp
    · generalize hc : ((decide (1 ≤ x.length) && decide (x.length ≤ 8)) && !reserved.contains x) = c
      decreasing_trivial_pre_omega
      cases c
      · simp only [isWordD, okWord, hc]
        simp
      · simp only [isWordD, okWord, hc]
        simp only [Bool.not_true, Bool.false_eq_true, false_implies, true_implies, true_and, Bool.true_and]
        have hl : x.length ≤ line := by
          simp only [Bool.and_eq_true, decide_eq_true_eq] at hc
          unfold line
          omega
        refine comp_mm (fun c => .bl (letters.contains c)) (by simp) (fun c hc => by decreasing_trivial) ?_
        decreasing_trivial_pre_omega
  · have hk : kindIn (kD v) 3 = false := by
      cases v <;> first | rfl | (exact absurd ⟨_, rfl⟩ hs)
    have hw : isWordD v = false := by cases v <;> first | rfl | (exact absurd ⟨_, rfl⟩ hs)
    decreasing_trivial_pre_omega
end
end OM
set_option Elab.async false
set_option linter.all false
set_option maxRecDepth 100000
set_option maxHeartbeats 1000000
/-! OmGen2: words, signatures, trees. -/
namespace OM
/-- the top's constants -/
structure Glo (Pg : Prog) : Prop where
  g0 : Pg.gl 0 = some (.int 3)
  g1 : Pg.gl 1 = some (.int 5)
  g2 : Pg.gl 2 = some (.int 8)
  g3 : Pg.gl 3 = some (.tup (reserved.map D.str))
section
variable {Pg : Prog} {k : Nat} {rs : List Nat} {S : Sto} {F : Fr} {E Q : PrE}
@[simp] theorem w_why {X : Cxt} {e : CE} : Ok (ev X rs (.why e) F S) E Q = Ok (ev X rs e F S) (fun x S1 => Ok (nox (X.why x rs S1)) E Q) fun d S1 => Q (.tup [.str valueT, d]) S1 := by
  simp only [ev]
  cases ev X rs e F S <;> rfl
/-- w with its arity -/
def pairD (q : List Nat × Int) : D := .tup [.str q.1, .int q.2]
def isPairD : D → Bool
  | .tup [a, .int i] => isWordD a && (decide (1 ≤ i) && decide (i ≤ 2))
  | _ => false
@[simp] theorem idx0 {a : D} {r : List D} : vIdx (.tup (a :: r)) (.int 0) S = .ok a S := by simp [vIdx, seqOf, place]
@[simp] theorem idx1 {a b : D} {r : List D} : vIdx (.tup (a :: b :: r)) (.int 1) S = .ok b S := by simp [vIdx, seqOf, place]
@[simp] theorem idxl0 {a : D} {r : List D} : vIdx (.lst (a :: r)) (.int 0) S = .ok a S := by simp [vIdx, seqOf, place]
@[simp] theorem seq_t {x : List D} : seqOf S (.tup x) = some x := rfl
@[simp] theorem seq_l {x : List D} : seqOf S (.lst x) = some x := rfl
@[simp] theorem texts_map : ∀ ws : List (List Nat), texts (ws.map D.str) = some ws
  | [] => rfl
  | w :: ws => by
    simp only [List.map_cons, texts, texts_map ws]
    rfl
@[simp] theorem bind_sm {α β : Type} {a : α} {f : α → Option β} : (some a).bind f = f a := rfl
theorem plain_strs : ∀ ws : List (List Nat), plainL (ws.map D.str) = true
  | [] => rfl
  | w :: ws => by simp [plainL, D.plain, plain_strs ws]
theorem take_l {c : Cell} : (S ++ [c]).take S.length = S := by simp
theorem get_l {c : Cell} : (S ++ [c])[S.length]? = some c := by simp
theorem set_l {c d : Cell} : (S ++ [c]).set S.length d = S ++ [d] := by simp
theorem fits_noc {rs : List Nat} {n : Nat} {v : D} (h : ∀ m, v.lo m = true) : fitsIn rs n v = true := by
  unfold fitsIn
  simp [h]
theorem put_l {X : Cxt} {c f : Nat} {ns : List Nat} {vs : List D} {v : D} (h1 : X.cl.fok c f = true) (h2 : ns.length < 1000) (h3 : ns.length = vs.length) (h4 : ∀ m, v.lo m = true) : putX X rs f (.ref S.length) v (S ++ [.obj c ns vs]) = some (S ++ [.obj c (putO f v ns vs).1 (putO f v ns vs).2]) := by
  unfold putX
  simp only [get_l, h1, decide_eq_true h2, decide_eq_true h3, fits_noc h4, Bool.and_self, if_true, set_l]
theorem frz_l {c : Nat} {ns : List Nat} {vs : List D} (h : loL S.length vs = true) : frz1 (S ++ [.obj c ns vs]) S.length (.ref S.length) = some (.obj c ns vs) := by
  have e : frz1 (S ++ [.obj c ns vs]) S.length (.ref S.length) = if S.length < S.length then some (.ref S.length) else match (S ++ [Cell.obj c ns vs])[S.length]? with
    | some (.lst xs) => if loL S.length xs then some (.lst xs) else none
    | some (.dct ks vs) => if loL S.length ks && loL S.length vs then some (.dct ks vs) else none
    | some (.obj c ns vs) => if loL S.length vs then some (.obj c ns vs) else none
    | none => none := rfl
  rw [e, if_neg (Nat.lt_irrefl _), get_l]
  simp only [h, if_true]
/-- a new instance that stands by itself -/
theorem make_w {c g : Nat} {G : FD} {kn : List Nat} {xs zs vs : List D} {E Q : PrE} (hf : Pg.fd g = some G) (hb : bindA G.dv G.ps (.ref S.length :: xs) kn zs = some vs) (h : OkS (evSs (cxt Pg k) (S.length :: rs) G.body (vs.map some ++ List.replicate (G.ns - vs.length) none) (S ++ [.obj c [] []])) ⟨EndE S E, noF, noF, noE⟩ fun _ S' => EndQ S Q (.ref S.length) S') : Ok (mkC (cxt Pg (k + 1)) rs false c g xs kn zs S) E Q := by
  unfold mkC
  rw [cxt_pars hf]
  simp only [hb]
  unfold doMake
  show Ok (match callD Pg (k + 1) g vs (S.length :: rs) (S ++ [.obj c [] []]) with
    | .ok .non S3 => endCall S (.ok (.ref S.length) S3)
    | .exc x S3 => endCall S (.exc x S3)
    | _ => .bad) E Q
  rw [callD_succ hf]
  unfold FD.run
  cases e : evSs (cxt Pg k) (S.length :: rs) G.body (vs.map some ++ List.replicate (G.ns - vs.length) none) (S ++ [.obj c [] []]) with
  | nx F S' =>
    rw [e] at h
    exact ok_end (o := .ok (.ref S.length) S') h
  | exc x F S' =>
    rw [e] at h
    exact ok_end (o := .exc x S') h
  | ret d S' =>
    rw [e] at h
    exact h.elim
  | _ =>
    rw [e] at h
    exact h.elim
theorem lo_strs {m : Nat} : ∀ ws : List (List Nat), loL m (ws.map D.str) = true
  | [] => rfl
  | w :: ws => by simp [loL, D.lo, lo_strs ws]
theorem lo_pairs {m : Nat} : ∀ ws : List (List Nat × Int), loL m (ws.map pairD) = true
  | [] => rfl
  | w :: ws => by simp [loL, pairD, D.lo, lo_pairs ws]
local macro_rules
  | `(tactic| decreasing_trivial) => `(tactic| simp only [ok_ok, ok_bad, ok_exc, ok_bind, okO_some, okO_none, ok_okIf, ok_ite, w_slot, w_cst, w_glo, w_bin, w_cmp, w_neg, w_chain, w_bop, w_B1, w_B2, w_not, w_ite, w_L0, w_L1, w_call, w_bcall, w_isin, w_bmeth, w_meth, w_make, w_attr, w_own, w_dist, w_D0, w_D1, w_dsp, w_idx, w_O0, w_O1, w_sli, w_tup, w_lst, w_comp, ok_mkF, ok_mkT, w_ov, w_rng1, s_nx, s_ret, s_bad, s_exc, s_run, s_nil, s_cons, s_exp, s_rete, s_retN, s_pas, s_brk, s_cnt, s_set, s_unp, s_par, s_cond, s_sub, s_fld, s_aug, s_raise, s_loop, s_body, bindT_one, bindT_tup, setN_nil, setN_cons, cxt_glob, cxt_cl, endQ_self, endE_self, frz_bl, frz_int, frz_str, frz_non, tr_bl, ii_1, ii_2, l07, l17, l27, l37, l47, l57, l67, ii_l1, ii_l2, ii_t1, ii_t2, pl_str, pl_int, pl_bl, pl_non, pl_tup, pl_lst, pl_nil, pl_cons, kD_str, kD_int, kD_bl, kD_non, kD_tup, kD_lst, ki_01, ki_02, ki_03, ki_04, ki_05, ki_06, ki_11, ki_12, ki_13, ki_14, ki_15, ki_16, ki_21, ki_22, ki_23, ki_24, ki_25, ki_26, ki_31, ki_32, ki_33, ki_34, ki_35, ki_36, ki_41, ki_42, ki_43, ki_44, ki_45, ki_46, ki_51, ki_52, ki_53, ki_54, ki_55, ki_56, ki_61, ki_62, ki_63, ki_64, ki_65, ki_66, isBl_bl, negD_int, intD_int, cmp_lt, cmp_le, cmp_gt, cmp_ge, cmp_eqi, cmp_nei, cmp_eqs, cmp_is, cmp_isn, flat_strs, mem_strs, cmp_inT, cmp_inL, cmp_ninT, cmp_inS, bin_add, bin_sub, bin_adds, bin_addt, bin_addl, bi_lenS, bi_lenT, bi_lenL, bi_tupL, bi_tupT, bi_int, bi_all, src_len, it_s, it_t, it_l, sl_one, sl_tup, wi_nil, wi_cons, w_why, idx0, idx1, idxl0, seq_t, seq_l, texts_map, bind_sm, turn_w, List.length_cons, List.length_nil, List.length_map, List.getElem?_cons_succ, List.getElem?_cons_zero, List.set_cons_zero, List.set_cons_succ, List.map_cons, List.map_nil, List.replicate_succ, List.replicate_zero, List.nil_append, List.cons_append, List.append_nil, List.tail_cons, List.headD_cons, List.head?_cons, Nat.reduceSub, Nat.reduceAdd, reduceIte, Bool.not_true, Bool.not_false, true_implies, forall_const, and_true, true_and, implies_true, reduceCtorEq, ne_eq, not_true_eq_false, not_false_eq_true, false_implies, and_self, if_true, if_false, Bool.false_eq_true, Bool.true_eq_false, okO_none, Option.some.injEq, Bool.or_true, Bool.true_or, Bool.false_or, Bool.or_false, Bool.and_true, Bool.true_and, Bool.and_false, Bool.false_and, decide_true, decide_false, eq_self])
local macro_rules
  | `(tactic| decreasing_trivial_pre_omega) => `(tactic| simp only [ok_ok, ok_bad, ok_exc, ok_bind, okO_some, okO_none, ok_okIf, ok_ite, w_slot, w_cst, w_glo, w_bin, w_cmp, w_neg, w_chain, w_bop, w_B1, w_B2, w_not, w_ite, w_L0, w_L1, w_call, w_bcall, w_isin, w_bmeth, w_meth, w_make, w_attr, w_own, w_dist, w_D0, w_D1, w_dsp, w_idx, w_O0, w_O1, w_sli, w_tup, w_lst, w_comp, ok_mkF, ok_mkT, w_ov, w_rng1, s_nx, s_ret, s_bad, s_exc, s_run, s_nil, s_cons, s_exp, s_rete, s_retN, s_pas, s_brk, s_cnt, s_set, s_unp, s_par, s_cond, s_sub, s_fld, s_aug, s_raise, s_loop, s_body, bindT_one, bindT_tup, setN_nil, setN_cons, cxt_glob, cxt_cl, endQ_self, endE_self, frz_bl, frz_int, frz_str, frz_non, tr_bl, ii_1, ii_2, l07, l17, l27, l37, l47, l57, l67, ii_l1, ii_l2, ii_t1, ii_t2, pl_str, pl_int, pl_bl, pl_non, pl_tup, pl_lst, pl_nil, pl_cons, kD_str, kD_int, kD_bl, kD_non, kD_tup, kD_lst, ki_01, ki_02, ki_03, ki_04, ki_05, ki_06, ki_11, ki_12, ki_13, ki_14, ki_15, ki_16, ki_21, ki_22, ki_23, ki_24, ki_25, ki_26, ki_31, ki_32, ki_33, ki_34, ki_35, ki_36, ki_41, ki_42, ki_43, ki_44, ki_45, ki_46, ki_51, ki_52, ki_53, ki_54, ki_55, ki_56, ki_61, ki_62, ki_63, ki_64, ki_65, ki_66, isBl_bl, negD_int, intD_int, cmp_lt, cmp_le, cmp_gt, cmp_ge, cmp_eqi, cmp_nei, cmp_eqs, cmp_is, cmp_isn, flat_strs, mem_strs, cmp_inT, cmp_inL, cmp_ninT, cmp_inS, bin_add, bin_sub, bin_adds, bin_addt, bin_addl, bi_lenS, bi_lenT, bi_lenL, bi_tupL, bi_tupT, bi_int, bi_all, src_len, it_s, it_t, it_l, sl_one, sl_tup, wi_nil, wi_cons, w_why, idx0, idx1, idxl0, seq_t, seq_l, texts_map, bind_sm, turn_w, List.length_cons, List.length_nil, List.length_map, List.getElem?_cons_succ, List.getElem?_cons_zero, List.set_cons_zero, List.set_cons_succ, List.map_cons, List.map_nil, List.replicate_succ, List.replicate_zero, List.nil_append, List.cons_append, List.append_nil, List.tail_cons, List.headD_cons, List.head?_cons, Nat.reduceSub, Nat.reduceAdd, reduceIte, Bool.not_true, Bool.not_false, true_implies, forall_const, and_true, true_and, implies_true, reduceCtorEq, ne_eq, not_true_eq_false, not_false_eq_true, false_implies, and_self, if_true, if_false, Bool.false_eq_true, Bool.true_eq_false, okO_none, Option.some.injEq, Bool.or_true, Bool.true_or, Bool.false_or, Bool.or_false, Bool.and_true, Bool.true_and, Bool.and_false, Bool.false_and, decide_true, decide_false, eq_self, *])
theorem pair_c {w : List Nat} {i : Int} (hf : Pg.fd 12 = some Fd.f_is_pair) (hw : Pg.fd 6 = some Fd.f_is_word) (h5 : Pg.fd 5 = some Fd.f_is_whole) (hg : Glo Pg) : callX (cxt Pg (k + 2)) rs false 12 [pairD (w, i)] [] [] S = .ok (.bl (okWord w && (decide (1 ≤ i) && decide (i ≤ 2)))) S := by
  refine Ok.eq (call_w (vs := [pairD (w, i)]) hf rfl ?_)
  have q1 := fun r S => word_c (k := k) (rs := r) (S := S) (v := .str w) hw hg.g2 hg.g3 rfl
  have q2 := fun r S => whole_c (k := k) (rs := r) (S := S) (v := .int i) h5 rfl
  simp only [Fd.f_is_pair, pairD]
  decreasing_trivial
  simp only [q1, q2]
  decreasing_trivial
  simp [isWordD, isWholeD]
  cases okWord w <;> simp <;> omega
def goodWs (ws : List (List Nat)) : Bool := ws.all okWord && decide (distT [] ws = ws.length)
theorem words_c {ws : List (List Nat)} {lo hi : Int} {b : Bool} (hf : Pg.fd 7 = some Fd.f_are_words) (hw : Pg.fd 6 = some Fd.f_is_word) (hg : Glo Pg) (hl : ws.length < 4000) (hb : b = ((decide (lo ≤ ws.length) && decide ((ws.length : Int) ≤ hi)) && goodWs ws)) : callX (cxt Pg (k + 2)) rs false 7 [.lst (ws.map D.str), .int lo, .int hi] [] [] S = .ok (.bl b) S := by
  refine Ok.eq (call_w (vs := [.lst (ws.map D.str), .int lo, .int hi]) hf rfl ?_)
  have q1 := fun w r S => word_c (k := k) (rs := r) (S := S) (v := .str w) hw hg.g2 hg.g3 rfl
  have pl := plain_strs ws
  simp only [Fd.f_are_words, s_cons, s_cond]
  refine Ok.cut (S1 := S) (.bl (!(decide (lo ≤ ws.length) && decide ((ws.length : Int) ≤ hi)))) ?_ ?_
  · decreasing_trivial_pre_omega
    cases decide (lo ≤ ws.length) <;> simp
  · generalize (decide (lo ≤ ws.length) && decide ((ws.length : Int) ≤ hi)) = c at hb
    decreasing_trivial_pre_omega
    cases c
    · simp [hb]
    · simp only [Bool.not_true, Bool.false_eq_true, false_implies, true_implies, true_and]
      refine comp_mm (fun w => .bl (okWord w)) (by simp) (fun c hc => by decreasing_trivial_pre_omega; rfl) ?_
      have hl2 : ws.length ≤ line := by
        unfold line
        omega
      have e1 : ((distT [] ws : Int) == (ws.length : Int)) = decide (distT [] ws = ws.length) := by
        rw [Bool.eq_iff_iff, beq_iff_eq, decide_eq_true_eq]
        omega
      decreasing_trivial_pre_omega
      unfold goodWs
      cases ws.all okWord <;> simp [e1]
/-- a signature -/
def sigD (ss : List (List Nat)) (ms : List (List Nat × Int)) : D := .obj 0 [21, 22] [.tup (ss.map D.str), .tup (ms.map pairD)]
theorem sig_make {ss : List (List Nat)} {ms : List (List Nat × Int)} (hf : Pg.fd 13 = some Fd.f_Signature___init__) (h7 : Pg.fd 7 = some Fd.f_are_words) (hw : Pg.fd 6 = some Fd.f_is_word) (h12 : Pg.fd 12 = some Fd.f_is_pair) (h5 : Pg.fd 5 = some Fd.f_is_whole) (hg : Glo Pg) (k21 : Pg.cl.fok 0 21 = true) (k22 : Pg.cl.fok 0 22 = true)
    (a1 : 1 ≤ ss.length) (a2 : ss.length ≤ 3) (a3 : ms.length ≤ 5) (a4 : goodWs (ss ++ ms.map (·.1)) = true) (a5 : goodWs ss = true) (a6 : ∀ q ∈ ms, okWord q.1 = true ∧ 1 ≤ q.2 ∧ q.2 ≤ 2) (kn : List Nat) (zs : List D) (hb : bindA [.tup []] [19, 11, 20] (.ref S.length :: [.lst (ss.map D.str), .lst (ms.map pairD)]) kn zs = some [.ref S.length, .lst (ss.map D.str), .lst (ms.map pairD)]) :
    mkC (cxt Pg (k + 4)) rs false 0 13 [.lst (ss.map D.str), .lst (ms.map pairD)] kn zs S = .ok (sigD ss ms) S := by
  refine Ok.eq (make_w (vs := [.ref S.length, .lst (ss.map D.str), .lst (ms.map pairD)]) hf hb ?_)
  have q1 := fun r S => words_c (k := k + 1) (rs := r) (S := S) (ws := ss) (lo := 1) (hi := 3) (b := true) h7 hw hg (by omega) (by simp [a5]; omega)
  have q2 := fun r S => words_c (k := k + 1) (rs := r) (S := S) (ws := ss ++ ms.map (·.1)) (lo := 1) (hi := 3 + 5) (b := true) h7 hw hg (by simp; omega) (by simp [a4]; omega)
  have q3 := fun w i r S => pair_c (k := k + 1) (rs := r) (S := S) (w := w) (i := i) h12 hw h5 hg
  have g0 := hg.g0
  have g1 := hg.g1
  simp only [Fd.f_Signature___init__]
  decreasing_trivial_pre_omega
  refine comp_mm (fun q => .bl (okWord q.1 && (decide (1 ≤ q.2) && decide (q.2 ≤ 2)))) (by simp) (fun q hq => ?_) ?_
  · decreasing_trivial_pre_omega
  · have e1 : (ms.all fun q => okWord q.1 && (decide (1 ≤ q.2) && decide (q.2 ≤ 2))) = true := by
      rw [List.all_eq_true]
      intro q hq
      obtain ⟨h1, h2, h3⟩ := a6 q hq
      simp [h1, h2, h3]
    have l1 : ms.length ≤ line := by unfold line; omega
    have l2 : ss.length ≤ line := by unfold line; omega
    decreasing_trivial_pre_omega
    refine comp_mm (fun q => .str q.1) (by simp) (fun q hq => ?_) ?_
    · simp only [pairD]
      decreasing_trivial
    · have l3 : ss.length + ms.length ≤ line := by unfold line; omega
      have e2 : ss.map D.str ++ ms.map (fun q => D.str q.1) = (ss ++ ms.map (·.1)).map D.str := by simp
      have e3 : decide (5 < (ms.length : Int)) = false := by simp; omega
      decreasing_trivial
      rw [e2]
      decreasing_trivial_pre_omega
      rw [put_l k21 (by simp) (by simp) (fun m => by simp only [D.lo, lo_strs])]
      decreasing_trivial
      rw [put_l k22 (by simp [putO]) (by simp [putO]) (fun m => by simp only [D.lo, lo_pairs])]
      decreasing_trivial
      refine ⟨sigD ss ms, ?_, rfl, take_l⟩
      refine frz_l ?_
      simp [putO, loL, D.lo, lo_strs, lo_pairs]
/-! what a signature tells -/
structure Sg (Pg : Prog) : Prop where
  k21 : Pg.cl.fok 0 21 = true
  k22 : Pg.cl.fok 0 22 = true
  p11 : Pg.cl.prp 0 11 = some 14
  m24 : Pg.cl.mth 0 24 = some 18
  m13 : Pg.cl.mth 0 13 = some 17
  m12 : Pg.cl.mth 0 12 = some 20
  f14 : Pg.fd 14 = some Fd.f_Signature_sorts
  f18 : Pg.fd 18 = some Fd.f_Signature_words
  f17 : Pg.fd 17 = some Fd.f_Signature_arity
  f20 : Pg.fd 20 = some Fd.f_Signature___contains__
  x3 : Pg.cl.exn 3 = some (29, [85, 110, 107, 110, 111, 119, 110, 87, 111, 114, 100], some 23)
theorem sig_21 {k : Nat} {ss : List (List Nat)} {ms : List (List Nat × Int)} (h : Sg Pg) : attrX (cxt Pg k) rs 21 (sigD ss ms) S = .ok (.tup (ss.map D.str)) S := by
  have := h.k21
  simp only [attrX, sigD, objOf, lookN, cxt_cl, this]
  rfl
theorem sig_22 {k : Nat} {ss : List (List Nat)} {ms : List (List Nat × Int)} (h : Sg Pg) : attrX (cxt Pg k) rs 22 (sigD ss ms) S = .ok (.tup (ms.map pairD)) S := by
  have := h.k22
  simp only [attrX, sigD, objOf, lookN, cxt_cl, this]
  rfl
theorem sig_meth {k m g : Nat} {ss : List (List Nat)} {ms : List (List Nat × Int)} {K : (List D → List Nat → List D → Sto → Out D) → Prop} (hm : Pg.cl.mth 0 m = some g) (hn : ([21, 22] : List Nat).contains m = false) : methX (cxt Pg k) rs false m (sigD ss ms) S K = K fun xs kn zs S3 => callX (cxt Pg k) rs false g (sigD ss ms :: xs) kn zs S3 := by
  unfold methX
  simp only [sigD, objOf, okO_some, cxt_cl, hm, hn, true_and]
theorem sig_sorts {ss : List (List Nat)} {ms : List (List Nat × Int)} (h : Sg Pg) : attrX (cxt Pg (k + 1)) rs 11 (sigD ss ms) S = .ok (.tup (ss.map D.str)) S := by
  have e := h.p11
  have c : callX (cxt Pg (k + 1)) rs false 14 [sigD ss ms] [] [] S = .ok (.tup (ss.map D.str)) S := by
    refine Ok.eq (call_w (vs := [sigD ss ms]) h.f14 rfl ?_)
    have q := fun r S => sig_21 (k := k) (rs := r) (S := S) (ss := ss) (ms := ms) h
    simp only [Fd.f_Signature_sorts]
    decreasing_trivial_pre_omega
    unfold frz1
    simp [D.lo, lo_strs]
  have e2 : attrX (cxt Pg (k + 1)) rs 11 (sigD ss ms) S = nox (callX (cxt Pg (k + 1)) rs false 14 [sigD ss ms] [] [] S) := by
    unfold callX
    simp only [attrX, sigD, objOf, lookN, cxt_cl, e, cxt_pars h.f14]
    rfl
  rw [e2, c]
  rfl
theorem sig_words {ss : List (List Nat)} {ms : List (List Nat × Int)} (h : Sg Pg) (l1 : ss.length ≤ 100) (l2 : ms.length ≤ 100) : callX (cxt Pg (k + 1)) rs false 18 [sigD ss ms] [] [] S = .ok (.lst ((ss ++ ms.map (·.1)).map D.str)) S := by
  refine Ok.eq (call_w (vs := [sigD ss ms]) h.f18 rfl ?_)
  have q1 := fun r S => sig_21 (k := k) (rs := r) (S := S) (ss := ss) (ms := ms) h
  have q2 := fun r S => sig_22 (k := k) (rs := r) (S := S) (ss := ss) (ms := ms) h
  have l3 : ss.length ≤ line := by unfold line; omega
  have l4 : ms.length ≤ line := by unfold line; omega
  have l5 : ss.length + ms.length ≤ line := by unfold line; omega
  simp only [Fd.f_Signature_words]
  decreasing_trivial_pre_omega
  refine comp_mm (fun q => .str q.1) (by simp) (fun q hq => ?_) ?_
  · simp only [pairD]
    decreasing_trivial
  · decreasing_trivial_pre_omega
    have e2 : ss.map D.str ++ ms.map (fun q => D.str q.1) = (ss ++ ms.map (·.1)).map D.str := by simp
    rw [e2]
    unfold frz1
    simp only [D.lo, lo_strs]
    decreasing_trivial
def inWD (ws : List (List Nat)) : D → Bool
  | .str w => ws.contains w
  | _ => false
theorem sig_in {ss : List (List Nat)} {ms : List (List Nat × Int)} {d : D} (hd : d.plain = true) (h : Sg Pg) (l1 : ss.length ≤ 100) (l2 : ms.length ≤ 100) : ownX (cxt Pg (k + 2)) rs 12 d (sigD ss ms) S = .ok (.bl (inWD (ss ++ ms.map (·.1)) d)) S := by
  have c : callX (cxt Pg (k + 2)) rs false 20 [sigD ss ms, d] [] [] S = .ok (.bl (inWD (ss ++ ms.map (·.1)) d)) S := by
    refine Ok.eq (call_w (vs := [sigD ss ms, d]) h.f20 rfl ?_)
    have q := fun r S => sig_words (k := k) (rs := r) (S := S) (ss := ss) (ms := ms) h l1 l2
    have m := h.m24
    simp only [Fd.f_Signature___contains__]
    have e3 : ∀ r S K, methX (cxt Pg (k + 1)) r false 24 (sigD ss ms) S K = K fun xs kn zs S3 => callX (cxt Pg (k + 1)) r false 18 (sigD ss ms :: xs) kn zs S3 := by
      intro r S K
      unfold methX
      simp only [sigD, objOf, okO_some, cxt_cl, m]
      simp
    generalize ss ++ ms.map (·.1) = W at q
    cases d with
    | str w =>
      decreasing_trivial_pre_omega
      rfl
    | _ => first | (cases hd; done) | (decreasing_trivial; rfl)
  have e := h.m12
  have e2 : ownX (cxt Pg (k + 2)) rs 12 d (sigD ss ms) S = callX (cxt Pg (k + 2)) rs false 20 [sigD ss ms, d] [] [] S := by
    unfold callX
    simp only [ownX, sigD, objOf, cxt_cl, e, cxt_pars h.f20]
    rfl
  rw [e2, c]
/-- the arity that stands first -/
def arOf (w : List Nat) : List (List Nat × Int) → Option Int
  | [] => none
  | q :: r => if q.1 == w then some q.2 else arOf w r
theorem sig_arity {ss : List (List Nat)} {ms : List (List Nat × Int)} {w : List Nat} {n : Int} (h : Sg Pg) (h1 : ss.contains w = false) (h2 : arOf w ms = some n) : callX (cxt Pg (k + 1)) rs false 17 [sigD ss ms, .str w] [] [] S = .ok (.int n) S := by
  refine Ok.eq (call_w (vs := [sigD ss ms, .str w]) h.f17 rfl ?_)
  have q1 := fun r S => sig_21 (k := k) (rs := r) (S := S) (ss := ss) (ms := ms) h
  have q2 := fun r S => sig_22 (k := k) (rs := r) (S := S) (ss := ss) (ms := ms) h
  simp only [Fd.f_Signature_arity]
  decreasing_trivial_pre_omega
  refine loop_w (l := ms.map pairD) (fun i F S' => S' = S ∧ arOf w (ms.drop i) = some n ∧ ∃ x y, F = [some (sigD ss ms), some (.str w), x, y]) (by simp) ⟨rfl, h2, _, _, rfl⟩ (fun i d F S' hd ⟨e1, e2, x, y, e3⟩ => ?_) (fun F S' ⟨_, e2, _⟩ => ?_)
  · subst e1 e3
    rw [List.getElem?_map] at hd
    obtain ⟨c, hc, rfl⟩ := Option.map_eq_some_iff.mp hd
    simp only [pairD]
    decreasing_trivial
    have hi := (List.getElem?_eq_some_iff.mp hc)
    rw [List.drop_eq_getElem_cons hi.1, hi.2] at e2
    unfold arOf at e2
    refine ⟨fun t => ?_, fun t => ?_⟩
    · rw [t] at e2
      simp only [if_true, Option.some.injEq] at e2
      rw [e2]
    · rw [t] at e2
      simp only [Bool.false_eq_true, if_false] at e2
      exact ⟨e2, _, _, rfl⟩
  · rw [List.length_map, List.drop_length] at e2
    cases e2
theorem arOf_none {w : List Nat} : ∀ {ms : List (List Nat × Int)}, arOf w ms = none → (ms.map (·.1)).contains w = false
  | [], _ => rfl
  | q :: r, h => by
    unfold arOf at h
    by_cases e : (q.1 == w) = true
    · rw [if_pos e] at h
      cases h
    · rw [if_neg e] at h
      rw [List.map_cons, List.contains_cons, arOf_none h, Bool.or_false]
      rw [Bool.eq_false_iff]
      intro z
      exact e (by rw [eq_of_beq z]; exact beq_self_eq_true _)
theorem arOf_some {w : List Nat} {n : Int} : ∀ {ms : List (List Nat × Int)}, arOf w ms = some n → (ms.map (·.1)).contains w = true
  | q :: r, h => by
    unfold arOf at h
    rw [List.map_cons, List.contains_cons, Bool.or_eq_true]
    by_cases e : (q.1 == w) = true
    · exact .inl (by rw [eq_of_beq e]; exact beq_self_eq_true _)
    · rw [if_neg e] at h
      exact .inr (arOf_some h)
def natD : D → Bool
  | .int i => decide (0 ≤ i)
  | _ => false
/-- a tree of the signature, to a depth -/
def isTr (ss : List (List Nat)) (ms : List (List Nat × Int)) : Nat → D → Bool
  | 0, _ => false
  | n + 1, .tup (.str w :: a :: r) => if ss.contains w then r.isEmpty && natD a else match arOf w ms with
    | some m => decide (m = r.length + 1) && (a :: r).all fun x => isTr ss ms n x
    | none => false
  | _ + 1, _ => false
theorem plainL_all : ∀ {ds : List D}, plainL ds = true → ∀ d ∈ ds, d.plain = true := fun h d m => plainL_mem h m
@[simp] theorem sli1 {a : D} {r : List D} : vSli (.tup (a :: r)) (some 1) none S = .ok (.tup r) S := by
  simp [vSli, cut, clip]
mutual
theorem plain_lo {m : Nat} : ∀ {d : D}, d.plain = true → d.lo m = true
  | .non, _ => rfl
  | .bl _, _ => rfl
  | .int _, _ => rfl
  | .str _, _ => rfl
  | .tup xs, h => by
    simp only [D.plain] at h
    simp only [D.lo]
    exact plainL_lo h
  | .lst xs, h => by
    simp only [D.plain] at h
    simp only [D.lo]
    exact plainL_lo h
theorem plainL_lo {m : Nat} : ∀ {ds : List D}, plainL ds = true → loL m ds = true
  | [], _ => rfl
  | d :: ds, h => by
    simp only [plainL, Bool.and_eq_true] at h
    simp only [loL, plain_lo h.1, plainL_lo h.2, Bool.and_self]
end
theorem frz_p {m : Nat} {d : D} (h : d.plain = true) : frz1 S m d = some d := by
  unfold frz1
  cases d <;> first | (cases h; done) | (simp only [plain_lo h, if_true])
local macro_rules
  | `(tactic| decreasing_trivial) => `(tactic| simp only [ok_ok, ok_bad, ok_exc, ok_bind, okO_some, okO_none, ok_okIf, ok_ite, w_slot, w_cst, w_glo, w_bin, w_cmp, w_neg, w_chain, w_bop, w_B1, w_B2, w_not, w_ite, w_L0, w_L1, w_call, w_bcall, w_isin, w_bmeth, w_meth, w_make, w_attr, w_own, w_dist, w_D0, w_D1, w_dsp, w_idx, w_O0, w_O1, w_sli, w_tup, w_lst, w_comp, ok_mkF, ok_mkT, w_ov, w_rng1, s_nx, s_ret, s_bad, s_exc, s_run, s_nil, s_cons, s_exp, s_rete, s_retN, s_pas, s_brk, s_cnt, s_set, s_unp, s_par, s_cond, s_sub, s_fld, s_aug, s_raise, s_loop, s_body, bindT_one, bindT_tup, setN_nil, setN_cons, cxt_glob, cxt_cl, endQ_self, endE_self, frz_bl, frz_int, frz_str, frz_non, tr_bl, ii_1, ii_2, l07, l17, l27, l37, l47, l57, l67, ii_l1, ii_l2, ii_t1, ii_t2, pl_str, pl_int, pl_bl, pl_non, pl_tup, pl_lst, pl_nil, pl_cons, kD_str, kD_int, kD_bl, kD_non, kD_tup, kD_lst, ki_01, ki_02, ki_03, ki_04, ki_05, ki_06, ki_11, ki_12, ki_13, ki_14, ki_15, ki_16, ki_21, ki_22, ki_23, ki_24, ki_25, ki_26, ki_31, ki_32, ki_33, ki_34, ki_35, ki_36, ki_41, ki_42, ki_43, ki_44, ki_45, ki_46, ki_51, ki_52, ki_53, ki_54, ki_55, ki_56, ki_61, ki_62, ki_63, ki_64, ki_65, ki_66, isBl_bl, negD_int, intD_int, cmp_lt, cmp_le, cmp_gt, cmp_ge, cmp_eqi, cmp_nei, cmp_eqs, cmp_is, cmp_isn, flat_strs, mem_strs, cmp_inT, cmp_inL, cmp_ninT, cmp_inS, bin_add, bin_sub, bin_adds, bin_addt, bin_addl, bi_lenS, bi_lenT, bi_lenL, bi_tupL, bi_tupT, bi_int, bi_all, src_len, it_s, it_t, it_l, sl_one, sl_tup, wi_nil, wi_cons, w_why, idx0, idx1, idxl0, seq_t, seq_l, texts_map, bind_sm, sli1, turn_w, List.length_cons, List.length_nil, List.length_map, List.getElem?_cons_succ, List.getElem?_cons_zero, List.set_cons_zero, List.set_cons_succ, List.map_cons, List.map_nil, List.replicate_succ, List.replicate_zero, List.nil_append, List.cons_append, List.append_nil, List.tail_cons, List.headD_cons, List.head?_cons, Nat.reduceSub, Nat.reduceAdd, reduceIte, Bool.not_true, Bool.not_false, true_implies, forall_const, and_true, true_and, implies_true, reduceCtorEq, ne_eq, not_true_eq_false, not_false_eq_true, false_implies, and_self, if_true, if_false, Bool.false_eq_true, Bool.true_eq_false, okO_none, Option.some.injEq, Bool.or_true, Bool.true_or, Bool.false_or, Bool.or_false, Bool.and_true, Bool.true_and, Bool.and_false, Bool.false_and, decide_true, decide_false, eq_self])
local macro_rules
  | `(tactic| decreasing_trivial_pre_omega) => `(tactic| simp only [ok_ok, ok_bad, ok_exc, ok_bind, okO_some, okO_none, ok_okIf, ok_ite, w_slot, w_cst, w_glo, w_bin, w_cmp, w_neg, w_chain, w_bop, w_B1, w_B2, w_not, w_ite, w_L0, w_L1, w_call, w_bcall, w_isin, w_bmeth, w_meth, w_make, w_attr, w_own, w_dist, w_D0, w_D1, w_dsp, w_idx, w_O0, w_O1, w_sli, w_tup, w_lst, w_comp, ok_mkF, ok_mkT, w_ov, w_rng1, s_nx, s_ret, s_bad, s_exc, s_run, s_nil, s_cons, s_exp, s_rete, s_retN, s_pas, s_brk, s_cnt, s_set, s_unp, s_par, s_cond, s_sub, s_fld, s_aug, s_raise, s_loop, s_body, bindT_one, bindT_tup, setN_nil, setN_cons, cxt_glob, cxt_cl, endQ_self, endE_self, frz_bl, frz_int, frz_str, frz_non, tr_bl, ii_1, ii_2, l07, l17, l27, l37, l47, l57, l67, ii_l1, ii_l2, ii_t1, ii_t2, pl_str, pl_int, pl_bl, pl_non, pl_tup, pl_lst, pl_nil, pl_cons, kD_str, kD_int, kD_bl, kD_non, kD_tup, kD_lst, ki_01, ki_02, ki_03, ki_04, ki_05, ki_06, ki_11, ki_12, ki_13, ki_14, ki_15, ki_16, ki_21, ki_22, ki_23, ki_24, ki_25, ki_26, ki_31, ki_32, ki_33, ki_34, ki_35, ki_36, ki_41, ki_42, ki_43, ki_44, ki_45, ki_46, ki_51, ki_52, ki_53, ki_54, ki_55, ki_56, ki_61, ki_62, ki_63, ki_64, ki_65, ki_66, isBl_bl, negD_int, intD_int, cmp_lt, cmp_le, cmp_gt, cmp_ge, cmp_eqi, cmp_nei, cmp_eqs, cmp_is, cmp_isn, flat_strs, mem_strs, cmp_inT, cmp_inL, cmp_ninT, cmp_inS, bin_add, bin_sub, bin_adds, bin_addt, bin_addl, bi_lenS, bi_lenT, bi_lenL, bi_tupL, bi_tupT, bi_int, bi_all, src_len, it_s, it_t, it_l, sl_one, sl_tup, wi_nil, wi_cons, w_why, idx0, idx1, idxl0, seq_t, seq_l, texts_map, bind_sm, sli1, turn_w, List.length_cons, List.length_nil, List.length_map, List.getElem?_cons_succ, List.getElem?_cons_zero, List.set_cons_zero, List.set_cons_succ, List.map_cons, List.map_nil, List.replicate_succ, List.replicate_zero, List.nil_append, List.cons_append, List.append_nil, List.tail_cons, List.headD_cons, List.head?_cons, Nat.reduceSub, Nat.reduceAdd, reduceIte, Bool.not_true, Bool.not_false, true_implies, forall_const, and_true, true_and, implies_true, reduceCtorEq, ne_eq, not_true_eq_false, not_false_eq_true, false_implies, and_self, if_true, if_false, Bool.false_eq_true, Bool.true_eq_false, okO_none, Option.some.injEq, Bool.or_true, Bool.true_or, Bool.false_or, Bool.or_false, Bool.and_true, Bool.true_and, Bool.and_false, Bool.false_and, decide_true, decide_false, eq_self, *])
theorem tree_c {ss : List (List Nat)} {ms : List (List Nat × Int)} (h : Sg Pg) (h8 : Pg.fd 8 = some Fd.f_is_tree) (h5 : Pg.fd 5 = some Fd.f_is_whole) (l1 : ss.length ≤ 100) (l2 : ms.length ≤ 100) : ∀ (n k : Nat) (d : D), n + 3 ≤ k → d.plain = true → d.fit = true → ∀ (rs : List Nat) (S : Sto) (xs zs : List D) (kn : List Nat), bindA [.int 40] [1, 2, 10] xs kn zs = some [sigD ss ms, d, .int n] → callX (cxt Pg k) rs false 8 xs kn zs S = .ok (.bl (isTr ss ms n d)) S
  | n, 0, d, hk, hd, hw, rs, S, xs, zs, kn, hb => by omega
  | n, k + 1, d, hk, hd, hw, rs, S, xs, zs, kn, hb => by
    refine Ok.eq (call_w (vs := [sigD ss ms, d, .int n]) h8 hb ?_)
    simp only [Fd.f_is_tree, s_cons]
    cases d with
    | tup ys =>
      match ys, hd, hw with
      | [], _, _ =>
        decreasing_trivial
        cases n <;> simp [isTr]
      | [x], _, _ =>
        decreasing_trivial
        cases n <;> simp [isTr]
      | .str w :: a :: r, hd, hw =>
        match n with
        | 0 =>
          have e1 : decide ((((r.length + 1 + 1 : Nat)) : Int) < 2) = false := by simp; omega
          have e2 : decide (((0 : Nat) : Int) < 1) = true := rfl
          decreasing_trivial_pre_omega
          simp [isTr]
        | n + 1 =>
          have e1 : decide ((((r.length + 1 + 1 : Nat)) : Int) < 2) = false := by simp; omega
          have e2 : decide (((n + 1 : Nat) : Int) < 1) = false := by simp; omega
          obtain ⟨j, rfl⟩ : ∃ j, k = j + 2 := ⟨k - 2, by omega⟩
          have q1 := fun r S => sig_sorts (k := j + 1) (rs := r) (S := S) (ss := ss) (ms := ms) h
          have q2 := fun v r S hv => whole_c (k := j + 1) (rs := r) (S := S) (v := v) h5 hv
          have q3 := fun r S => sig_in (k := j) (rs := r) (S := S) (ss := ss) (ms := ms) (d := .str w) rfl h l1 l2
          simp only [D.plain, plainL, Bool.and_eq_true] at hd
          have pa := hd.2.1
          have pr := hd.2.2
          cases hs : ss.contains w with
          | true =>
            have et : isTr ss ms (n + 1) (.tup (.str w :: a :: r)) = (r.isEmpty && natD a) := by simp only [isTr, hs, if_true]
            rw [et]
            decreasing_trivial_pre_omega
            cases r with
            | nil =>
              cases a with
              | int i => simp [isWholeD, natD]
              | _ => simp [isWholeD, natD]
            | cons b r =>
              have e5 : ((((b :: r).length + 1 + 1 : Nat) : Int) == 2) = false := by simp; omega
              simp only [e5]
              simp
          | false =>
            have et : isTr ss ms (n + 1) (.tup (.str w :: a :: r)) = (match arOf w ms with
              | some m => decide (m = r.length + 1) && (a :: r).all fun x => isTr ss ms n x
              | none => false) := by simp only [isTr, hs, if_false, Bool.false_eq_true]
            rw [et]
            cases ha : arOf w ms with
            | none =>
              have e4 : inWD (ss ++ ms.map (·.1)) (.str w) = false := by
                have := arOf_none ha
                simp only [inWD, List.contains_append, hs, this, Bool.or_self]
              decreasing_trivial_pre_omega
            | some m =>
              have e4 : inWD (ss ++ ms.map (·.1)) (.str w) = true := by
                have := arOf_some ha
                simp only [inWD, List.contains_append, hs, this, Bool.or_true]
              have q4 := fun r S => sig_arity (k := j + 1) (rs := r) (S := S) h hs ha
              have e5 : ((r.length + 1 + 1 : Nat) : Int) - 1 = (r.length : Int) + 1 := by omega
              have e6 : ((n + 1 : Nat) : Int) - 1 = n := by omega
              decreasing_trivial_pre_omega
              rw [sig_meth h.m13 rfl]
              have pall : ∀ x ∈ a :: r, x.plain = true ∧ x.fit = true := by
                intro x hx
                simp only [D.fit, fitL, Bool.and_eq_true] at hw
                rcases List.mem_cons.mp hx with rfl | hx
                · exact ⟨pa, hw.2.2.1⟩
                · exact ⟨plainL_mem pr hx, fitL_mem hw.2.2.2 hx⟩
              have hlen : (a :: r).length ≤ line := by
                simp only [D.fit, Bool.and_eq_true, decide_eq_true_eq] at hw
                have := hw.1
                simp only [List.length_cons] at this ⊢
                omega
              have hl0 : r.length + 1 = (a :: r).length := rfl
              have e7 : (m == (r.length : Int) + 1) = decide (m = (r.length : Int) + 1) := by
                rw [Bool.eq_iff_iff, beq_iff_eq, decide_eq_true_eq]
              generalize decide (m = (r.length : Int) + 1) = c at e7
              generalize hl : a :: r = l at hlen hl0 pall
              decreasing_trivial_pre_omega
              cases c with
              | false => simp
              | true =>
                simp only [Bool.not_true, Bool.false_eq_true, false_implies, true_implies, true_and, Bool.true_and]
                refine comp_m (fun x => .bl (isTr ss ms n x)) (by omega) (fun x hx => ?_) ?_
                · decreasing_trivial_pre_omega
                  refine Ok.of (tree_c h h8 h5 l1 l2 n (j + 2) x (by omega) (pall x hx).1 (pall x hx).2 _ _ _ _ _ rfl) ⟨rfl, rfl⟩
                · decreasing_trivial_pre_omega
      | .non :: a :: r, hd, hw =>
        decreasing_trivial
        cases n <;> simp [isTr] <;> omega
      | .bl _ :: a :: r, hd, hw =>
        decreasing_trivial
        cases n <;> simp [isTr] <;> omega
      | .int _ :: a :: r, hd, hw =>
        decreasing_trivial
        cases n <;> simp [isTr] <;> omega
      | .tup _ :: a :: r, hd, hw =>
        decreasing_trivial
        cases n <;> simp [isTr] <;> omega
      | .lst _ :: a :: r, hd, hw =>
        decreasing_trivial
        cases n <;> simp [isTr] <;> omega
    | _ => first | (cases hd; done) | (decreasing_trivial; cases n <;> rfl)
end
end OM
set_option Elab.async false
set_option linter.all false
set_option maxRecDepth 100000
set_option maxHeartbeats 1000000
/-! OmGen3: depths, paths, what is drawn. -/
namespace OM
section
variable {Pg : Prog} {k : Nat} {rs : List Nat} {S : Sto} {F : Fr} {E Q : PrE}
mutual
/-- how deep a tree is -/
def dpT : D → Int
  | .tup (_ :: a :: r) => if isWholeD a then 1 else 1 + maxL (dpT a) (dpL r)
  | _ => 0
def dpL : List D → List Int
  | [] => []
  | d :: ds => dpT d :: dpL ds
end
theorem dpL_map : ∀ ds : List D, dpL ds = ds.map dpT
  | [] => rfl
  | d :: ds => by simp only [dpL, dpL_map ds, List.map_cons]
theorem intL_map {α : Type} {f : α → Int} : ∀ x : List α, intL (x.map fun c => D.int (f c)) = some (x.map f)
  | [] => rfl
  | c :: x => by
    simp only [List.map_cons, intL]
    rw [intL_map x]
    rfl
@[simp] theorem bi_max {mu : Bool} {α : Type} {f : α → Int} {c : α} {x : List α} : vBi mu .max [.lst (.int (f c) :: x.map fun c => D.int (f c))] S = .ok (.int (maxL (f c) (x.map f))) S := by
  simp only [vBi, vBi1, lstOf, Option.bind, intL, intL_map]
  rfl
/-- trees of any signature: what is walked by depth -/
def shT : Nat → D → Bool
  | 0, _ => false
  | n + 1, .tup (.str _ :: a :: r) => (isWholeD a && r.isEmpty) || (decide (r.length ≤ 1000) && (a :: r).all fun x => shT n x)
  | _ + 1, _ => false
local macro_rules
  | `(tactic| decreasing_trivial) => `(tactic| simp only [ok_ok, ok_bad, ok_exc, ok_bind, okO_some, okO_none, ok_okIf, ok_ite, w_slot, w_cst, w_glo, w_bin, w_cmp, w_neg, w_chain, w_bop, w_B1, w_B2, w_not, w_ite, w_L0, w_L1, w_call, w_bcall, w_isin, w_bmeth, w_meth, w_make, w_attr, w_own, w_dist, w_D0, w_D1, w_dsp, w_idx, w_O0, w_O1, w_sli, w_tup, w_lst, w_comp, ok_mkF, ok_mkT, w_ov, w_rng1, s_nx, s_ret, s_bad, s_exc, s_run, s_nil, s_cons, s_exp, s_rete, s_retN, s_pas, s_brk, s_cnt, s_set, s_unp, s_par, s_cond, s_sub, s_fld, s_aug, s_raise, s_loop, s_body, bindT_one, bindT_tup, setN_nil, setN_cons, cxt_glob, cxt_cl, endQ_self, endE_self, frz_bl, frz_int, frz_str, frz_non, tr_bl, ii_1, ii_2, l07, l17, l27, l37, l47, l57, l67, ii_l1, ii_l2, ii_t1, ii_t2, pl_str, pl_int, pl_bl, pl_non, pl_tup, pl_lst, pl_nil, pl_cons, kD_str, kD_int, kD_bl, kD_non, kD_tup, kD_lst, ki_01, ki_02, ki_03, ki_04, ki_05, ki_06, ki_11, ki_12, ki_13, ki_14, ki_15, ki_16, ki_21, ki_22, ki_23, ki_24, ki_25, ki_26, ki_31, ki_32, ki_33, ki_34, ki_35, ki_36, ki_41, ki_42, ki_43, ki_44, ki_45, ki_46, ki_51, ki_52, ki_53, ki_54, ki_55, ki_56, ki_61, ki_62, ki_63, ki_64, ki_65, ki_66, isBl_bl, negD_int, intD_int, cmp_lt, cmp_le, cmp_gt, cmp_ge, cmp_eqi, cmp_nei, cmp_eqs, cmp_is, cmp_isn, flat_strs, mem_strs, cmp_inT, cmp_inL, cmp_ninT, cmp_inS, bin_add, bin_sub, bin_adds, bin_addt, bin_addl, bi_lenS, bi_lenT, bi_lenL, bi_tupL, bi_tupT, bi_int, bi_all, src_len, it_s, it_t, it_l, sl_one, sl_tup, wi_nil, wi_cons, w_why, idx0, idx1, idxl0, seq_t, seq_l, texts_map, bind_sm, sli1, bi_max, turn_w, List.length_cons, List.length_nil, List.length_map, List.getElem?_cons_succ, List.getElem?_cons_zero, List.set_cons_zero, List.set_cons_succ, List.map_cons, List.map_nil, List.replicate_succ, List.replicate_zero, List.nil_append, List.cons_append, List.append_nil, List.tail_cons, List.headD_cons, List.head?_cons, Nat.reduceSub, Nat.reduceAdd, reduceIte, Bool.not_true, Bool.not_false, true_implies, forall_const, and_true, true_and, implies_true, reduceCtorEq, ne_eq, not_true_eq_false, not_false_eq_true, false_implies, and_self, if_true, if_false, Bool.false_eq_true, Bool.true_eq_false, okO_none, Option.some.injEq, Bool.or_true, Bool.true_or, Bool.false_or, Bool.or_false, Bool.and_true, Bool.true_and, Bool.and_false, Bool.false_and, decide_true, decide_false, eq_self])
local macro_rules
  | `(tactic| decreasing_trivial_pre_omega) => `(tactic| simp only [ok_ok, ok_bad, ok_exc, ok_bind, okO_some, okO_none, ok_okIf, ok_ite, w_slot, w_cst, w_glo, w_bin, w_cmp, w_neg, w_chain, w_bop, w_B1, w_B2, w_not, w_ite, w_L0, w_L1, w_call, w_bcall, w_isin, w_bmeth, w_meth, w_make, w_attr, w_own, w_dist, w_D0, w_D1, w_dsp, w_idx, w_O0, w_O1, w_sli, w_tup, w_lst, w_comp, ok_mkF, ok_mkT, w_ov, w_rng1, s_nx, s_ret, s_bad, s_exc, s_run, s_nil, s_cons, s_exp, s_rete, s_retN, s_pas, s_brk, s_cnt, s_set, s_unp, s_par, s_cond, s_sub, s_fld, s_aug, s_raise, s_loop, s_body, bindT_one, bindT_tup, setN_nil, setN_cons, cxt_glob, cxt_cl, endQ_self, endE_self, frz_bl, frz_int, frz_str, frz_non, tr_bl, ii_1, ii_2, l07, l17, l27, l37, l47, l57, l67, ii_l1, ii_l2, ii_t1, ii_t2, pl_str, pl_int, pl_bl, pl_non, pl_tup, pl_lst, pl_nil, pl_cons, kD_str, kD_int, kD_bl, kD_non, kD_tup, kD_lst, ki_01, ki_02, ki_03, ki_04, ki_05, ki_06, ki_11, ki_12, ki_13, ki_14, ki_15, ki_16, ki_21, ki_22, ki_23, ki_24, ki_25, ki_26, ki_31, ki_32, ki_33, ki_34, ki_35, ki_36, ki_41, ki_42, ki_43, ki_44, ki_45, ki_46, ki_51, ki_52, ki_53, ki_54, ki_55, ki_56, ki_61, ki_62, ki_63, ki_64, ki_65, ki_66, isBl_bl, negD_int, intD_int, cmp_lt, cmp_le, cmp_gt, cmp_ge, cmp_eqi, cmp_nei, cmp_eqs, cmp_is, cmp_isn, flat_strs, mem_strs, cmp_inT, cmp_inL, cmp_ninT, cmp_inS, bin_add, bin_sub, bin_adds, bin_addt, bin_addl, bi_lenS, bi_lenT, bi_lenL, bi_tupL, bi_tupT, bi_int, bi_all, src_len, it_s, it_t, it_l, sl_one, sl_tup, wi_nil, wi_cons, w_why, idx0, idx1, idxl0, seq_t, seq_l, texts_map, bind_sm, sli1, bi_max, turn_w, List.length_cons, List.length_nil, List.length_map, List.getElem?_cons_succ, List.getElem?_cons_zero, List.set_cons_zero, List.set_cons_succ, List.map_cons, List.map_nil, List.replicate_succ, List.replicate_zero, List.nil_append, List.cons_append, List.append_nil, List.tail_cons, List.headD_cons, List.head?_cons, Nat.reduceSub, Nat.reduceAdd, reduceIte, Bool.not_true, Bool.not_false, true_implies, forall_const, and_true, true_and, implies_true, reduceCtorEq, ne_eq, not_true_eq_false, not_false_eq_true, false_implies, and_self, if_true, if_false, Bool.false_eq_true, Bool.true_eq_false, okO_none, Option.some.injEq, Bool.or_true, Bool.true_or, Bool.false_or, Bool.or_false, Bool.and_true, Bool.true_and, Bool.and_false, Bool.false_and, decide_true, decide_false, eq_self, *])
theorem isName_c {x a : D} {r : List D} (h10 : Pg.fd 10 = some Fd.f_is_name) (ha : a.plain = true) (hb : ∀ b, a ≠ .bl b) : callX (cxt Pg (k + 1)) rs false 10 [.tup (x :: a :: r)] [] [] S = .ok (.bl (isWholeD a)) S := by
  refine Ok.eq (call_w (vs := [.tup (x :: a :: r)]) h10 rfl ?_)
  simp only [Fd.f_is_name]
  decreasing_trivial_pre_omega
  cases a with
  | bl b => exact (hb b rfl).elim
  | _ => first | (cases ha; done) | rfl
theorem shT_tup {n : Nat} {d : D} (h : shT n d = true) : ∃ m w a r, n = m + 1 ∧ d = .tup (.str w :: a :: r) ∧ ((∃ i, a = .int i) ∧ r = [] ∨ (a :: r).length ≤ 1001 ∧ ∀ x ∈ a :: r, shT m x = true) := by
  cases n with
  | zero => simp [shT] at h
  | succ m =>
    cases d with
    | tup ys =>
      rcases ys with _ | ⟨x, _ | ⟨a, r⟩⟩
      · simp [shT] at h
      · cases x <;> simp [shT] at h
      · cases x with
        | str w =>
          simp only [shT] at h
          refine ⟨_, w, a, r, rfl, rfl, ?_⟩
          rw [Bool.or_eq_true] at h
          rcases h with h | h
          · rw [Bool.and_eq_true] at h
            left
            refine ⟨?_, List.isEmpty_iff.mp h.2⟩
            cases a with
            | int i => exact ⟨i, rfl⟩
            | _ => cases h.1
          · right
            rw [Bool.and_eq_true, decide_eq_true_eq, List.all_eq_true] at h
            exact ⟨by simp only [List.length_cons]; omega, h.2⟩
        | _ => simp [shT] at h
    | _ => simp [shT] at h
theorem depL_le {m : Nat} : ∀ {ds : List D}, (∀ d ∈ ds, D.dep d ≤ m) → depL ds ≤ m
  | [], _ => Nat.zero_le _
  | d :: ds, h => by
    unfold depL
    have h1 := h d List.mem_cons_self
    have h2 := depL_le fun x hx => h x (List.mem_cons_of_mem _ hx)
    omega
theorem plainL_of : ∀ {ds : List D}, (∀ d ∈ ds, d.plain = true) → plainL ds = true
  | [], _ => rfl
  | d :: ds, h => by
    unfold plainL
    rw [h d List.mem_cons_self, plainL_of fun x hx => h x (List.mem_cons_of_mem _ hx)]
    rfl
theorem fitL_of : ∀ {ds : List D}, (∀ d ∈ ds, d.fit = true) → fitL ds = true
  | [], _ => rfl
  | d :: ds, h => by
    unfold fitL
    rw [h d List.mem_cons_self, fitL_of fun x hx => h x (List.mem_cons_of_mem _ hx)]
    rfl
theorem shT_plain : ∀ {n : Nat} {d : D}, shT n d = true → d.plain = true ∧ d.fit = true ∧ D.dep d ≤ n ∧ (∀ b, d ≠ .bl b) ∧ isWholeD d = false
  | n, d, h0 => by
    obtain ⟨m, w, a, r, rfl, rfl, h⟩ := shT_tup h0
    rcases h with ⟨⟨i, rfl⟩, rfl⟩ | ⟨hl, h⟩
    · exact ⟨rfl, rfl, by simp [D.dep, depL], by simp, rfl⟩
    · have ih := fun x hx => shT_plain (h x hx)
      refine ⟨?_, ?_, ?_, by simp, rfl⟩
      · show (true && plainL (a :: r)) = true
        rw [plainL_of fun x hx => (ih x hx).1]
        rfl
      · unfold D.fit
        rw [Bool.and_eq_true, decide_eq_true_eq]
        refine ⟨by simp only [List.length_cons] at hl ⊢; unfold line; omega, ?_⟩
        show (true && fitL (a :: r)) = true
        rw [fitL_of fun x hx => (ih x hx).2.1]
        rfl
      · have := depL_le (m := m) fun x hx => (ih x hx).2.2.1
        show max 0 (depL (a :: r)) + 1 ≤ m + 1
        omega
theorem depth_c (h11 : Pg.fd 11 = some Fd.f_depth_of) (h10 : Pg.fd 10 = some Fd.f_is_name) : ∀ (n k : Nat) (d : D), n + 1 ≤ k → shT n d = true → ∀ (rs : List Nat) (S : Sto) (xs zs : List D) (kn : List Nat), bindA [] [14] xs kn zs = some [d] → callX (cxt Pg k) rs false 11 xs kn zs S = .ok (.int (dpT d)) S
  | n, 0, d, hk, hd, rs, S, xs, zs, kn, hb => by omega
  | n, k + 1, d, hk, hd, rs, S, xs, zs, kn, hb => by
    refine Ok.eq (call_w (vs := [d]) h11 hb ?_)
    simp only [Fd.f_depth_of]
    obtain ⟨m, w, a, r, rfl, rfl, h⟩ := shT_tup hd
    obtain ⟨j, rfl⟩ : ∃ j, k = j + 1 := ⟨k - 1, by omega⟩
    rcases h with ⟨⟨i, rfl⟩, rfl⟩ | ⟨hl, h⟩
    · have q := fun r S => isName_c (k := j) (rs := r) (S := S) (x := .str w) (a := .int i) (r := []) h10 rfl (by simp)
      decreasing_trivial_pre_omega
      simp [isWholeD, dpT]
    · have ha := shT_plain (h a List.mem_cons_self)
      have q := fun rs S => isName_c (k := j) (rs := rs) (S := S) (x := .str w) (a := a) (r := r) h10 ha.1 ha.2.2.2.1
      have e := ha.2.2.2.2
      have e2 : dpT (.tup (.str w :: a :: r)) = 1 + maxL (dpT a) (r.map dpT) := by
        simp only [dpT, e, dpL_map]
        rfl
      rw [e2]
      have hl2 : (a :: r).length ≤ line := by unfold line; omega
      decreasing_trivial_pre_omega
      refine comp_m (fun x => .int (dpT x)) (by simp) (fun x hx => ?_) ?_
      · decreasing_trivial_pre_omega
        exact Ok.of (depth_c h11 h10 m (j + 1) x (by omega) (h x hx) _ _ _ _ _ rfl) ⟨rfl, rfl⟩
      · decreasing_trivial_pre_omega
        exact hl2
theorem lawDepth_c (h35 : Pg.fd 35 = some Fd.f__law_depth) : ∀ (n k : Nat) (d : D), n ≤ k → shT n d = true → ∀ (rs : List Nat) (S : Sto), callX (cxt Pg k) rs false 35 [d] [] [] S = .ok (.int (dpT d)) S
  | n, 0, d, hk, hd, rs, S => by
    obtain ⟨m, w, a, r, rfl, rfl, h⟩ := shT_tup hd
    omega
  | n, k + 1, d, hk, hd, rs, S => by
    refine Ok.eq (call_w (vs := [d]) h35 rfl ?_)
    simp only [Fd.f__law_depth]
    obtain ⟨m, w, a, r, rfl, rfl, h⟩ := shT_tup hd
    rcases h with ⟨⟨i, rfl⟩, rfl⟩ | ⟨hl, h⟩
    · decreasing_trivial_pre_omega
      simp [dpT, isWholeD]
    · have ha := shT_plain (h a List.mem_cons_self)
      have e := ha.2.2.2.2
      have e3 : kindIn (kD a) 2 = false := by
        cases a with
        | bl b => exact (ha.2.2.2.1 b rfl).elim
        | int i => cases e
        | _ => rfl
      have e2 : dpT (.tup (.str w :: a :: r)) = 1 + maxL (dpT a) (r.map dpT) := by
        simp only [dpT, e, dpL_map]
        rfl
      have pa := ha.1
      rw [e2]
      have hl2 : (a :: r).length ≤ line := by unfold line; omega
      decreasing_trivial_pre_omega
      refine comp_m (fun x => .int (dpT x)) (by simp) (fun x hx => ?_) ?_
      · decreasing_trivial_pre_omega
        exact Ok.of (lawDepth_c h35 m k x (by omega) (h x hx) _ _) ⟨rfl, rfl⟩
      · decreasing_trivial_pre_omega
        exact hl2
theorem arOf_mem {w : List Nat} {n : Int} : ∀ {ms : List (List Nat × Int)}, arOf w ms = some n → ∃ q ∈ ms, q.1 = w ∧ q.2 = n
  | q :: r, h => by
    unfold arOf at h
    by_cases e : (q.1 == w) = true
    · rw [if_pos e, Option.some.injEq] at h
      exact ⟨q, List.mem_cons_self, eq_of_beq e, h⟩
    · rw [if_neg e] at h
      obtain ⟨p, h1, h2⟩ := arOf_mem h
      exact ⟨p, List.mem_cons_of_mem _ h1, h2⟩
theorem isTr_inv {ss : List (List Nat)} {ms : List (List Nat × Int)} {n : Nat} {d : D} (h : isTr ss ms n d = true) : ∃ m w a r, n = m + 1 ∧ d = .tup (.str w :: a :: r) ∧ ((ss.contains w = true ∧ r = [] ∧ ∃ i, a = .int i ∧ 0 ≤ i) ∨ (ss.contains w = false ∧ ∃ c, arOf w ms = some c ∧ c = r.length + 1 ∧ ∀ x ∈ a :: r, isTr ss ms m x = true)) := by
  cases n with
  | zero => simp [isTr] at h
  | succ m =>
    cases d with
    | tup ys =>
      rcases ys with _ | ⟨x, _ | ⟨a, r⟩⟩
      · simp [isTr] at h
      · cases x <;> simp [isTr] at h
      · cases x with
        | str w =>
          simp only [isTr] at h
          refine ⟨_, w, a, r, rfl, rfl, ?_⟩
          cases hs : ss.contains w with
          | true =>
            rw [hs, if_pos rfl, Bool.and_eq_true] at h
            refine .inl ⟨rfl, List.isEmpty_iff.mp h.1, ?_⟩
            cases a with
            | int i => exact ⟨i, rfl, of_decide_eq_true h.2⟩
            | _ => cases h.2
          | false =>
            rw [hs, if_neg (by simp)] at h
            right
            cases ha : arOf w ms with
            | none =>
              rw [ha] at h
              cases h
            | some c =>
              rw [ha] at h
              simp only [Bool.and_eq_true, decide_eq_true_eq, List.all_eq_true] at h
              exact ⟨rfl, c, rfl, h.1, h.2⟩
        | _ => simp [isTr] at h
    | _ => simp [isTr] at h
theorem isTr_sh {ss : List (List Nat)} {ms : List (List Nat × Int)} (hm : ∀ q ∈ ms, q.2 ≤ 1000) : ∀ {n : Nat} {d : D}, isTr ss ms n d = true → shT n d = true
  | n, d, h0 => by
    obtain ⟨m, w, a, r, rfl, rfl, ⟨h1, rfl, i, rfl, h2⟩ | ⟨h1, c, h2, h3, h4⟩⟩ := isTr_inv h0
    · simp [shT, isWholeD]
    · obtain ⟨q, q1, q2, q3⟩ := arOf_mem h2
      have := hm q q1
      simp only [shT, Bool.or_eq_true, Bool.and_eq_true, decide_eq_true_eq, List.all_eq_true]
      exact .inr ⟨by omega, fun x hx => isTr_sh hm (h4 x hx)⟩
theorem Ok.exq {o : Out D} {x : D} (h : Ok o (fun b S' => b = x ∧ S' = S) fun _ _ => False) : o = .exc x S := by
  cases o with
  | ok a S => exact h.elim
  | exc y S' =>
    obtain ⟨rfl, rfl⟩ := h
    rfl
  | bad => exact h.elim
theorem check_c {ss : List (List Nat)} {ms : List (List Nat × Int)} {d : D} (h : Sg Pg) (h9 : Pg.fd 9 = some Fd.f_check_tree) (h8 : Pg.fd 8 = some Fd.f_is_tree) (h5 : Pg.fd 5 = some Fd.f_is_whole) (hx : Pg.cl.exn 1 = some (29, [73, 110, 118, 97, 108, 105, 100, 84, 114, 101, 101], some 2)) (l1 : ss.length ≤ 100) (l2 : ms.length ≤ 100) (hd : d.plain = true) (hw : d.fit = true) (hk : 44 ≤ k) :
    callX (cxt Pg k) rs false 9 [sigD ss ms, d] [] [] S = if isTr ss ms 40 d then .ok .non S else .exc (.exc 1 [2, 29] [d, .str [73, 110, 118, 97, 108, 105, 100, 84, 114, 101, 101]]) S := by
  obtain ⟨j, rfl⟩ : ∃ j, k = j + 1 := ⟨k - 1, by omega⟩
  have q := fun r S => tree_c h h8 h5 l1 l2 40 j d (by omega) hd hw r S [sigD ss ms, d] [] [] rfl
  cases ht : isTr ss ms 40 d with
  | true =>
    simp only [if_true]
    refine Ok.eq (call_w (vs := [sigD ss ms, d]) h9 rfl ?_)
    simp only [Fd.f_check_tree]
    decreasing_trivial_pre_omega
  | false =>
    simp only [Bool.false_eq_true, if_false]
    refine Ok.exq (call_w (vs := [sigD ss ms, d]) h9 rfl ?_)
    simp only [Fd.f_check_tree]
    have e : excX 1 (29, [73, 110, 118, 97, 108, 105, 100, 84, 114, 101, 101], some 2) [d] = some (.exc 1 [2, 29] [d, .str [73, 110, 118, 97, 108, 105, 100, 84, 114, 101, 101]]) := rfl
    have e2 : D.lo S.length (.exc 1 [2, 29] [d, .str [73, 110, 118, 97, 108, 105, 100, 84, 114, 101, 101]]) = true := by simp [D.lo, loL, plain_lo hd]
    decreasing_trivial_pre_omega
end
end OM
set_option Elab.async false
set_option linter.all false
set_option maxRecDepth 100000
set_option maxHeartbeats 1000000
/-! OmGen4: what is drawn. -/
namespace OM
section
variable {Pg : Prog} {k b : Nat} {rs : List Nat} {S : Sto} {F : Fr} {E Q : PrE}
theorem pull_w {m : Int} (hP : Pg.fd 24 = some Fd.f__law_pull) (h : Bag S b) (hm : 0 < m) (hm2 : m < 10000000000000000000000000000000000000000) (K : ∀ r S', 0 ≤ r → r < m → Drew S S' b → Q (.int r) S') : Ok (callX (cxt Pg (k + 1)) rs false 24 [.ref b, .int m] [] [] S) E Q := by
  have hP' : Pg.fd 24 = some ⟨[3, 7], 5, [], B_pull⟩ := hP
  obtain ⟨r, S', e, h1, h2, h3⟩ := pull_call (k := k) (rs := rs) hP' h hm hm2
  have e2 : callX (cxt Pg (k + 1)) rs false 24 [.ref b, .int m] [] [] S = endCall S ((cxt Pg (k + 1)).call 24 [.ref b, .int m] (S.length :: rs) S) := by
    unfold callX
    rw [cxt_pars hP]
    rfl
  rw [e2, e]
  exact K r S' h1 h2 h3
theorem idx_l {s : List D} {r : Int} (h1 : 0 ≤ r) (h2 : r < s.length) : ∃ d ∈ s, vIdx (.lst s) (.int r) S = .ok d S := by
  have hi : r.toNat < s.length := by omega
  refine ⟨s[r.toNat], List.getElem_mem _, ?_⟩
  simp only [vIdx, seqOf, place, if_pos h1, if_pos hi, List.getElem?_eq_getElem hi]
theorem idx_s {s : List Nat} {r : Int} (h1 : 0 ≤ r) (h2 : r < s.length) : ∃ c ∈ s, vIdx (.str s) (.int r) S = .ok (.str [c]) S := by
  have hi : r.toNat < s.length := by omega
  refine ⟨s[r.toNat], List.getElem_mem _, ?_⟩
  simp only [vIdx, place, if_pos h1, if_pos hi, List.getElem?_eq_getElem hi]
local macro_rules
  | `(tactic| decreasing_trivial) => `(tactic| simp only [ok_ok, ok_bad, ok_exc, ok_bind, okO_some, okO_none, ok_okIf, ok_ite, w_slot, w_cst, w_glo, w_bin, w_cmp, w_neg, w_chain, w_bop, w_B1, w_B2, w_not, w_ite, w_L0, w_L1, w_call, w_bcall, w_isin, w_bmeth, w_meth, w_make, w_attr, w_own, w_dist, w_D0, w_D1, w_dsp, w_idx, w_O0, w_O1, w_sli, w_tup, w_lst, w_comp, ok_mkF, ok_mkT, w_ov, w_rng1, s_nx, s_ret, s_bad, s_exc, s_run, s_nil, s_cons, s_exp, s_rete, s_retN, s_pas, s_brk, s_cnt, s_set, s_unp, s_par, s_cond, s_sub, s_fld, s_aug, s_raise, s_loop, s_body, bindT_one, bindT_tup, setN_nil, setN_cons, cxt_glob, cxt_cl, endQ_self, endE_self, frz_bl, frz_int, frz_str, frz_non, tr_bl, ii_1, ii_2, l07, l17, l27, l37, l47, l57, l67, ii_l1, ii_l2, ii_t1, ii_t2, pl_str, pl_int, pl_bl, pl_non, pl_tup, pl_lst, pl_nil, pl_cons, kD_str, kD_int, kD_bl, kD_non, kD_tup, kD_lst, ki_01, ki_02, ki_03, ki_04, ki_05, ki_06, ki_11, ki_12, ki_13, ki_14, ki_15, ki_16, ki_21, ki_22, ki_23, ki_24, ki_25, ki_26, ki_31, ki_32, ki_33, ki_34, ki_35, ki_36, ki_41, ki_42, ki_43, ki_44, ki_45, ki_46, ki_51, ki_52, ki_53, ki_54, ki_55, ki_56, ki_61, ki_62, ki_63, ki_64, ki_65, ki_66, isBl_bl, negD_int, intD_int, cmp_lt, cmp_le, cmp_gt, cmp_ge, cmp_eqi, cmp_nei, cmp_eqs, cmp_is, cmp_isn, flat_strs, mem_strs, cmp_inT, cmp_inL, cmp_ninT, cmp_inS, bin_add, bin_sub, bin_adds, bin_addt, bin_addl, bi_lenS, bi_lenT, bi_lenL, bi_tupL, bi_tupT, bi_int, bi_all, src_len, it_s, it_t, it_l, sl_one, sl_tup, wi_nil, wi_cons, w_why, idx0, idx1, idxl0, seq_t, seq_l, texts_map, bind_sm, sli1, bi_max, turn_w, List.length_cons, List.length_nil, List.length_map, List.getElem?_cons_succ, List.getElem?_cons_zero, List.set_cons_zero, List.set_cons_succ, List.map_cons, List.map_nil, List.replicate_succ, List.replicate_zero, List.nil_append, List.cons_append, List.append_nil, List.tail_cons, List.headD_cons, List.head?_cons, Nat.reduceSub, Nat.reduceAdd, reduceIte, Bool.not_true, Bool.not_false, true_implies, forall_const, and_true, true_and, implies_true, reduceCtorEq, ne_eq, not_true_eq_false, not_false_eq_true, false_implies, and_self, if_true, if_false, Bool.false_eq_true, Bool.true_eq_false, okO_none, Option.some.injEq, Bool.or_true, Bool.true_or, Bool.false_or, Bool.or_false, Bool.and_true, Bool.true_and, Bool.and_false, Bool.false_and, decide_true, decide_false, eq_self])
local macro_rules
  | `(tactic| decreasing_trivial_pre_omega) => `(tactic| simp only [ok_ok, ok_bad, ok_exc, ok_bind, okO_some, okO_none, ok_okIf, ok_ite, w_slot, w_cst, w_glo, w_bin, w_cmp, w_neg, w_chain, w_bop, w_B1, w_B2, w_not, w_ite, w_L0, w_L1, w_call, w_bcall, w_isin, w_bmeth, w_meth, w_make, w_attr, w_own, w_dist, w_D0, w_D1, w_dsp, w_idx, w_O0, w_O1, w_sli, w_tup, w_lst, w_comp, ok_mkF, ok_mkT, w_ov, w_rng1, s_nx, s_ret, s_bad, s_exc, s_run, s_nil, s_cons, s_exp, s_rete, s_retN, s_pas, s_brk, s_cnt, s_set, s_unp, s_par, s_cond, s_sub, s_fld, s_aug, s_raise, s_loop, s_body, bindT_one, bindT_tup, setN_nil, setN_cons, cxt_glob, cxt_cl, endQ_self, endE_self, frz_bl, frz_int, frz_str, frz_non, tr_bl, ii_1, ii_2, l07, l17, l27, l37, l47, l57, l67, ii_l1, ii_l2, ii_t1, ii_t2, pl_str, pl_int, pl_bl, pl_non, pl_tup, pl_lst, pl_nil, pl_cons, kD_str, kD_int, kD_bl, kD_non, kD_tup, kD_lst, ki_01, ki_02, ki_03, ki_04, ki_05, ki_06, ki_11, ki_12, ki_13, ki_14, ki_15, ki_16, ki_21, ki_22, ki_23, ki_24, ki_25, ki_26, ki_31, ki_32, ki_33, ki_34, ki_35, ki_36, ki_41, ki_42, ki_43, ki_44, ki_45, ki_46, ki_51, ki_52, ki_53, ki_54, ki_55, ki_56, ki_61, ki_62, ki_63, ki_64, ki_65, ki_66, isBl_bl, negD_int, intD_int, cmp_lt, cmp_le, cmp_gt, cmp_ge, cmp_eqi, cmp_nei, cmp_eqs, cmp_is, cmp_isn, flat_strs, mem_strs, cmp_inT, cmp_inL, cmp_ninT, cmp_inS, bin_add, bin_sub, bin_adds, bin_addt, bin_addl, bi_lenS, bi_lenT, bi_lenL, bi_tupL, bi_tupT, bi_int, bi_all, src_len, it_s, it_t, it_l, sl_one, sl_tup, wi_nil, wi_cons, w_why, idx0, idx1, idxl0, seq_t, seq_l, texts_map, bind_sm, sli1, bi_max, turn_w, List.length_cons, List.length_nil, List.length_map, List.getElem?_cons_succ, List.getElem?_cons_zero, List.set_cons_zero, List.set_cons_succ, List.map_cons, List.map_nil, List.replicate_succ, List.replicate_zero, List.nil_append, List.cons_append, List.append_nil, List.tail_cons, List.headD_cons, List.head?_cons, Nat.reduceSub, Nat.reduceAdd, reduceIte, Bool.not_true, Bool.not_false, true_implies, forall_const, and_true, true_and, implies_true, reduceCtorEq, ne_eq, not_true_eq_false, not_false_eq_true, false_implies, and_self, if_true, if_false, Bool.false_eq_true, Bool.true_eq_false, okO_none, Option.some.injEq, Bool.or_true, Bool.true_or, Bool.false_or, Bool.or_false, Bool.and_true, Bool.true_and, Bool.and_false, Bool.false_and, decide_true, decide_false, eq_self, *])
theorem ofL_w {s : List D} (hO : Pg.fd 25 = some Fd.f__law_of) (hP : Pg.fd 24 = some Fd.f__law_pull) (h : Bag S b) (h0 : 0 < s.length) (h1 : s.length < 1000000) (hlo : ∀ d ∈ s, d.plain = true) (K : ∀ d S', d ∈ s → Drew S S' b → Q d S') : Ok (callX (cxt Pg (k + 2)) rs false 25 [.ref b, .lst s] [] [] S) E Q := by
  refine call_w (vs := [.ref b, .lst s]) hO rfl ?_
  simp only [Fd.f__law_of]
  decreasing_trivial
  refine pull_w hP h (by omega) (by omega) fun r S' h2 h3 hd => ?_
  obtain ⟨d, hm, e⟩ := idx_l (S := S') h2 h3
  rw [e]
  exact endQ_lo (plain_lo (hlo d hm)) hd.len (K d S' hm hd)
theorem ofS_w {s : List Nat} (hO : Pg.fd 25 = some Fd.f__law_of) (hP : Pg.fd 24 = some Fd.f__law_pull) (h : Bag S b) (h0 : 0 < s.length) (h1 : s.length < 1000000) (K : ∀ c S', c ∈ s → Drew S S' b → Q (.str [c]) S') : Ok (callX (cxt Pg (k + 2)) rs false 25 [.ref b, .str s] [] [] S) E Q := by
  refine call_w (vs := [.ref b, .str s]) hO rfl ?_
  simp only [Fd.f__law_of]
  decreasing_trivial
  refine pull_w hP h (by omega) (by omega) fun r S' h2 h3 hd => ?_
  obtain ⟨c, hm, e⟩ := idx_s (S := S') h2 h3
  rw [e]
  exact endQ_lo rfl hd.len (K c S' hm hd)
theorem bag_w {ns : List Int} (hB : Pg.fd 23 = some Fd.f__law_bag) (K : ∀ S', Bag S' S.length → (∃ c, S' = S ++ [c]) → Q (.ref S.length) S') : Ok (callX (cxt Pg (k + 1)) rs true 23 [.frz ns] [] [] S) E Q := by
  rw [callX_eq (vs := [.frz ns]) hB rfl]
  simp only [if_true]
  unfold FD.run
  refine ok_out ?_
  simp only [Fd.f__law_bag]
  have e1 : vSli (.frz ns) none (some 63) S = .ok (.lst ((cut ns none (some 63)).map D.int)) S := rfl
  have hl : ((cut ns none (some 63)).map D.int).length ≤ line := by
    rw [List.length_map]
    unfold cut clip
    simp only [List.length_take, List.length_drop]
    unfold line
    have : (63 : Int).toNat = 63 := rfl
    simp only [show (0 : Int) ≤ 63 from by decide, if_true, this]
    omega
  have e2 : vBi false .list [.lst ((cut ns none (some 63)).map D.int)] S = .ok (.lst ((cut ns none (some 63)).map D.int)) S := by
    simp only [vBi, vBi1, seqOf, mkList, if_pos hl]
    rfl
  have e3 : 4 ≤ line := by unfold line; omega
  decreasing_trivial_pre_omega
  exact K _ ⟨_, 0, 0, 5633, get_l, by decide, by decide, by decide, by decide⟩ ⟨_, rfl⟩
/-! ### words that are drawn -/
theorem rangeD_map : ∀ (n : Nat) (a : Int), rangeD a n = (List.range n).map fun (i : Nat) => D.int (a + (i : Int))
  | 0, _ => rfl
  | n + 1, a => by
    unfold rangeD
    rw [rangeD_map n (a + 1), List.range_succ_eq_map, List.map_cons, List.map_map]
    congr 1
    · simp
    · refine List.map_congr_left fun i _ => ?_
      show D.int _ = D.int _
      congr 1
      simp only [Function.comp, Nat.succ_eq_add_one]
      omega
theorem distT_nodup : ∀ (ts seen : List (List Nat)), ts.Nodup → (∀ x ∈ ts, seen.contains x = false) → distT seen ts = ts.length
  | [], _, _, _ => rfl
  | x :: ts, seen, h, hs => by
    rw [List.nodup_cons] at h
    unfold distT
    rw [hs x List.mem_cons_self, distT_nodup ts (seen ++ [x]) h.2 fun y hy => ?_]
    · simp only [Bool.false_eq_true, if_false, List.length_cons]
      omega
    · rw [List.contains_append, hs y (List.mem_cons_of_mem _ hy), Bool.false_or]
      rw [List.contains_cons, List.contains_nil, Bool.or_false, Bool.eq_false_iff]
      intro z
      exact h.1 (by rw [← eq_of_beq z]; exact hy)
theorem good_of {ws : List (List Nat)} (h1 : ∀ w ∈ ws, okWord w = true) (h2 : ws.Nodup) : goodWs ws = true := by
  unfold goodWs
  rw [distT_nodup ws [] h2 fun _ _ => rfl, decide_eq_true rfl, Bool.and_true, List.all_eq_true]
  exact h1
def letAt (i : Nat) : Nat := letters.getD i 0
theorem letAt_eq : ∀ i, i < 26 → letAt i = 97 + i := by decide
theorem letAt_mem : ∀ i, i < 26 → letAt i ∈ letters := by decide
/-- the k-th name -/
def nmW (st : List Nat) (a f : Int) (k : Nat) : List Nat := cut st none (some a) ++ [letAt ((f + 3 * k) % 26).toNat] ++ cut st (some a) none
def fixW (w : List Nat) : List Nat := if reserved.contains w then w ++ [120] else w
theorem nmW_len {st : List Nat} {a f : Int} {k : Nat} (h1 : 0 ≤ a) (h2 : a ≤ st.length) : (nmW st a f k).length = st.length + 1 := by
  unfold nmW cut clip
  simp only [h1, if_true, List.length_append, List.length_take, List.length_drop, List.length_singleton]
  omega
theorem nmW_inj {st : List Nat} {a f : Int} {i j : Nat} (hf : 0 ≤ f) (hi : i < 9) (hj : j < 9) (h : nmW st a f i = nmW st a f j) : i = j := by
  unfold nmW at h
  rw [List.append_left_inj, List.append_right_inj, List.cons.injEq] at h
  have e := h.1
  rw [letAt_eq _ (by omega), letAt_eq _ (by omega)] at e
  omega
theorem res_last : ∀ r ∈ reserved, r.getLast? ≠ some 120 := by decide
theorem res_len : ∀ r ∈ reserved, r.length ≤ 4 := by decide
theorem fixW_ok {w : List Nat} (h1 : 1 ≤ w.length) (h2 : w.length ≤ 7) (h3 : ∀ c ∈ w, c ∈ letters) : okWord (fixW w) = true := by
  unfold fixW okWord
  cases hr : reserved.contains w with
  | true =>
    simp only [if_true]
    have e1 : reserved.contains (w ++ [120]) = false := by
      rw [Bool.eq_false_iff]
      intro z
      exact res_last _ (List.contains_iff_mem.mp z) (by simp)
    have e2 : (w ++ [120]).all (fun c => letters.contains c) = true := by
      rw [List.all_eq_true]
      intro c hc
      rw [List.contains_iff_mem]
      rcases List.mem_append.mp hc with hc | hc
      · exact h3 c hc
      · rw [List.mem_singleton.mp hc]
        decide
    rw [e1, e2]
    simp only [List.length_append, List.length_singleton]
    simp
    omega
  | false =>
    simp only [if_false, Bool.false_eq_true]
    have e2 : w.all (fun c => letters.contains c) = true := by
      rw [List.all_eq_true]
      intro c hc
      rw [List.contains_iff_mem]
      exact h3 c hc
    rw [hr, e2]
    simp
    omega
theorem fixW_inj {u v : List Nat} (hl : u.length = v.length) (h : fixW u = fixW v) : u = v := by
  unfold fixW at h
  cases hu : reserved.contains u <;> cases hv : reserved.contains v <;> rw [hu, hv] at h
  · exact h
  · have := congrArg List.length h
    simp at this
    omega
  · have := congrArg List.length h
    simp at this
    omega
  · simpa using h
def namesL (st : List Nat) (a f : Int) (n : Nat) : List (List Nat) := (List.range n).map fun k => fixW (nmW st a f k)
theorem cut_mem {α : Type} {xs : List α} {lo hi : Option Int} {x : α} (h : x ∈ cut xs lo hi) : x ∈ xs := List.mem_of_mem_drop (List.mem_of_mem_take h)
theorem names_ok {st : List Nat} {a f : Int} {n : Nat} (h1 : 0 ≤ a) (h2 : a ≤ st.length) (h3 : st.length ≤ 6) (h4 : ∀ c ∈ st, c ∈ letters) (h5 : 0 ≤ f) (hn : n ≤ 9) : (∀ w ∈ namesL st a f n, okWord w = true) ∧ (namesL st a f n).Nodup := by
  constructor
  · intro w hw
    obtain ⟨k, _, rfl⟩ := List.mem_map.mp hw
    have hl := nmW_len (f := f) (k := k) h1 h2
    refine fixW_ok (by omega) (by omega) fun c hc => ?_
    unfold nmW at hc
    rcases List.mem_append.mp hc with hc | hc
    · rcases List.mem_append.mp hc with hc | hc
      · exact h4 c (cut_mem hc)
      · rw [List.mem_singleton.mp hc]
        exact letAt_mem _ (by omega)
    · exact h4 c (cut_mem hc)
  · unfold namesL
    rw [List.nodup_iff_pairwise_ne, List.pairwise_map]
    refine List.Pairwise.imp_of_mem ?_ (List.nodup_iff_pairwise_ne.mp List.nodup_range)
    intro i j hi hj hij e
    exact hij (nmW_inj (st := st) (a := a) (f := f) h5 (by have := List.mem_range.mp hi; omega) (by have := List.mem_range.mp hj; omega) (fixW_inj (by rw [nmW_len h1 h2, nmW_len h1 h2]) e))
end
end OM
set_option Elab.async false
set_option linter.all false
set_option maxRecDepth 100000
set_option maxHeartbeats 1000000
/-! OmGen5: names, specs, trees that are drawn. -/
namespace OM
section
variable {Pg : Prog} {k b : Nat} {rs : List Nat} {S : Sto} {F : Fr} {E Q : PrE}
theorem rngD {n : Nat} {j : Int} (h : j.toNat = n) : rangeD 0 j.toNat = (List.range n).map fun (i : Nat) => D.int (i : Int) := by
  rw [h, rangeD_map]
  refine List.map_congr_left fun i _ => ?_
  simp
@[simp] theorem sliS {x : List Nat} {lo hi : Option Int} : vSli (.str x) lo hi S = .ok (.str (cut x lo hi)) S := rfl
@[simp] theorem sliL {x : List D} {lo hi : Option Int} : vSli (.lst x) lo hi S = .ok (.lst (cut x lo hi)) S := rfl
theorem bin_mod26 {i : Int} : vBin .mod (.int i) (.int 26) S = .ok (.int (i % 26)) S := modV (by decide)
theorem bin_mul3 {i : Int} : vBin .mul (.int 3) (.int i) S = .ok (.int (3 * i)) S := mulV (fits_l (by decide) (by decide))
theorem idx_let {i : Int} (h1 : 0 ≤ i) (h2 : i < 26) : vIdx (.str letters) (.int i) S = .ok (.str [letAt i.toNat]) S := by
  have hi : i.toNat < letters.length := by show _ < 26; omega
  simp only [vIdx, place, if_pos h1, if_pos hi, List.getElem?_eq_getElem hi]
  unfold letAt
  rw [List.getD_eq_getElem?_getD, List.getElem?_eq_getElem hi]
  rfl
theorem cut_len {α : Type} {x : List α} {lo hi : Option Int} : (cut x lo hi).length ≤ x.length := by
  unfold cut
  simp only [List.length_take, List.length_drop]
  omega
theorem texts_map1 {cs : List Nat} : texts (cs.map fun c => D.str [c]) = some (cs.map fun c => [c]) := by
  rw [show (cs.map fun c => D.str [c]) = (cs.map fun c => [c]).map D.str by rw [List.map_map]; rfl, texts_map]
theorem rangeD_len : ∀ (n : Nat) (a : Int), (rangeD a n).length = n
  | 0, _ => rfl
  | n + 1, a => by
    unfold rangeD
    rw [List.length_cons, rangeD_len n]
local macro_rules
  | `(tactic| decreasing_trivial) => `(tactic| simp only [ok_ok, ok_bad, ok_exc, ok_bind, okO_some, okO_none, ok_okIf, ok_ite, w_slot, w_cst, w_glo, w_bin, w_cmp, w_neg, w_chain, w_bop, w_B1, w_B2, w_not, w_ite, w_L0, w_L1, w_call, w_bcall, w_isin, w_bmeth, w_meth, w_make, w_attr, w_own, w_dist, w_D0, w_D1, w_dsp, w_idx, w_O0, w_O1, w_sli, w_tup, w_lst, w_comp, ok_mkF, ok_mkT, w_ov, w_rng1, s_nx, s_ret, s_bad, s_exc, s_run, s_nil, s_cons, s_exp, s_rete, s_retN, s_pas, s_brk, s_cnt, s_set, s_unp, s_par, s_cond, s_sub, s_fld, s_aug, s_raise, s_loop, s_body, bindT_one, bindT_tup, setN_nil, setN_cons, cxt_glob, cxt_cl, endQ_self, endE_self, frz_bl, frz_int, frz_str, frz_non, tr_bl, ii_1, ii_2, l07, l17, l27, l37, l47, l57, l67, ii_l1, ii_l2, ii_t1, ii_t2, pl_str, pl_int, pl_bl, pl_non, pl_tup, pl_lst, pl_nil, pl_cons, kD_str, kD_int, kD_bl, kD_non, kD_tup, kD_lst, ki_01, ki_02, ki_03, ki_04, ki_05, ki_06, ki_11, ki_12, ki_13, ki_14, ki_15, ki_16, ki_21, ki_22, ki_23, ki_24, ki_25, ki_26, ki_31, ki_32, ki_33, ki_34, ki_35, ki_36, ki_41, ki_42, ki_43, ki_44, ki_45, ki_46, ki_51, ki_52, ki_53, ki_54, ki_55, ki_56, ki_61, ki_62, ki_63, ki_64, ki_65, ki_66, isBl_bl, negD_int, intD_int, cmp_lt, cmp_le, cmp_gt, cmp_ge, cmp_eqi, cmp_nei, cmp_eqs, cmp_is, cmp_isn, flat_strs, mem_strs, cmp_inT, cmp_inL, cmp_ninT, cmp_inS, bin_add, bin_sub, bin_adds, bin_addt, bin_addl, bi_lenS, bi_lenT, bi_lenL, bi_tupL, bi_tupT, bi_int, bi_all, src_len, it_s, it_t, it_l, sl_one, sl_tup, wi_nil, wi_cons, w_why, idx0, idx1, idxl0, seq_t, seq_l, texts_map, bind_sm, sli1, bi_max, sliS, sliL, turn_w, List.length_cons, List.length_nil, List.length_map, List.getElem?_cons_succ, List.getElem?_cons_zero, List.set_cons_zero, List.set_cons_succ, List.map_cons, List.map_nil, List.replicate_succ, List.replicate_zero, List.nil_append, List.cons_append, List.append_nil, List.tail_cons, List.headD_cons, List.head?_cons, Nat.reduceSub, Nat.reduceAdd, reduceIte, Bool.not_true, Bool.not_false, true_implies, forall_const, and_true, true_and, implies_true, reduceCtorEq, ne_eq, not_true_eq_false, not_false_eq_true, false_implies, and_self, if_true, if_false, Bool.false_eq_true, Bool.true_eq_false, okO_none, Option.some.injEq, Bool.or_true, Bool.true_or, Bool.false_or, Bool.or_false, Bool.and_true, Bool.true_and, Bool.and_false, Bool.false_and, decide_true, decide_false, eq_self])
local macro_rules
  | `(tactic| decreasing_trivial_pre_omega) => `(tactic| simp only [ok_ok, ok_bad, ok_exc, ok_bind, okO_some, okO_none, ok_okIf, ok_ite, w_slot, w_cst, w_glo, w_bin, w_cmp, w_neg, w_chain, w_bop, w_B1, w_B2, w_not, w_ite, w_L0, w_L1, w_call, w_bcall, w_isin, w_bmeth, w_meth, w_make, w_attr, w_own, w_dist, w_D0, w_D1, w_dsp, w_idx, w_O0, w_O1, w_sli, w_tup, w_lst, w_comp, ok_mkF, ok_mkT, w_ov, w_rng1, s_nx, s_ret, s_bad, s_exc, s_run, s_nil, s_cons, s_exp, s_rete, s_retN, s_pas, s_brk, s_cnt, s_set, s_unp, s_par, s_cond, s_sub, s_fld, s_aug, s_raise, s_loop, s_body, bindT_one, bindT_tup, setN_nil, setN_cons, cxt_glob, cxt_cl, endQ_self, endE_self, frz_bl, frz_int, frz_str, frz_non, tr_bl, ii_1, ii_2, l07, l17, l27, l37, l47, l57, l67, ii_l1, ii_l2, ii_t1, ii_t2, pl_str, pl_int, pl_bl, pl_non, pl_tup, pl_lst, pl_nil, pl_cons, kD_str, kD_int, kD_bl, kD_non, kD_tup, kD_lst, ki_01, ki_02, ki_03, ki_04, ki_05, ki_06, ki_11, ki_12, ki_13, ki_14, ki_15, ki_16, ki_21, ki_22, ki_23, ki_24, ki_25, ki_26, ki_31, ki_32, ki_33, ki_34, ki_35, ki_36, ki_41, ki_42, ki_43, ki_44, ki_45, ki_46, ki_51, ki_52, ki_53, ki_54, ki_55, ki_56, ki_61, ki_62, ki_63, ki_64, ki_65, ki_66, isBl_bl, negD_int, intD_int, cmp_lt, cmp_le, cmp_gt, cmp_ge, cmp_eqi, cmp_nei, cmp_eqs, cmp_is, cmp_isn, flat_strs, mem_strs, cmp_inT, cmp_inL, cmp_ninT, cmp_inS, bin_add, bin_sub, bin_adds, bin_addt, bin_addl, bi_lenS, bi_lenT, bi_lenL, bi_tupL, bi_tupT, bi_int, bi_all, src_len, it_s, it_t, it_l, sl_one, sl_tup, wi_nil, wi_cons, w_why, idx0, idx1, idxl0, seq_t, seq_l, texts_map, bind_sm, sli1, bi_max, sliS, sliL, turn_w, List.length_cons, List.length_nil, List.length_map, List.getElem?_cons_succ, List.getElem?_cons_zero, List.set_cons_zero, List.set_cons_succ, List.map_cons, List.map_nil, List.replicate_succ, List.replicate_zero, List.nil_append, List.cons_append, List.append_nil, List.tail_cons, List.headD_cons, List.head?_cons, Nat.reduceSub, Nat.reduceAdd, reduceIte, Bool.not_true, Bool.not_false, true_implies, forall_const, and_true, true_and, implies_true, reduceCtorEq, ne_eq, not_true_eq_false, not_false_eq_true, false_implies, and_self, if_true, if_false, Bool.false_eq_true, Bool.true_eq_false, okO_none, Option.some.injEq, Bool.or_true, Bool.true_or, Bool.false_or, Bool.or_false, Bool.and_true, Bool.true_and, Bool.and_false, Bool.false_and, decide_true, decide_false, eq_self, *])
theorem join1 {cs : List Nat} : joinT [] (cs.map fun c => [c]) = cs := by
  induction cs with
  | nil => rfl
  | cons c cs ih =>
    cases cs with
    | nil => rfl
    | cons d cs =>
      simp only [List.map_cons] at ih ⊢
      unfold joinT
      rw [ih]
      rfl
theorem sum1 {cs : List Nat} : sumLen (cs.map fun c => [c]) = cs.length := by
  induction cs with
  | nil => rfl
  | cons c cs ih =>
    simp only [List.map_cons, sumLen, ih, List.length_cons, List.length_nil]
    omega
theorem names_w {n : Nat} (hN : Pg.fd 29 = some Fd.f__law_names) (hO : Pg.fd 25 = some Fd.f__law_of) (hP : Pg.fd 24 = some Fd.f__law_pull) (h : Bag S b) (hn : n ≤ 9)
    (K : ∀ (ws : List (List Nat)) S', ws.length = n → (∀ w ∈ ws, okWord w = true) → ws.Nodup → Drew S S' b → Q (.lst (ws.map D.str)) S') : Ok (callX (cxt Pg (k + 3)) rs false 29 [.ref b, .int n] [] [] S) E Q := by
  refine call_w (vs := [.ref b, .int n]) hN rfl ?_
  simp only [Fd.f__law_names, let_fold, res_fold]
  decreasing_trivial
  refine ⟨rfl, pull_w (m := 7) hP h (by decide) (by decide) fun r S1 r0 r7 d1 => ?_⟩
  decreasing_trivial
  refine ⟨⟨by omega, by omega⟩, comp_w (fun i ys S' => ∃ cs : List Nat, ys = cs.map (fun c => D.str [c]) ∧ cs.length = i ∧ (∀ c ∈ cs, c ∈ letters) ∧ Drew S1 S' b) rfl ⟨[], rfl, rfl, by simp, .refl d1.1⟩ (fun i d ys S' hd ⟨cs, e, hl, hc, dr⟩ => ?_) fun ys S2 ⟨cs, e, hl, hc, d2⟩ => ?_⟩
  · decreasing_trivial
    refine ofS_w hO hP dr.1 (by decide) (by decide) fun c S'' hm d2 => ⟨cs ++ [c], by rw [e, List.map_append]; rfl, by rw [List.length_append, hl]; rfl, fun x hx => ?_, dr.trans d2⟩
    rcases List.mem_append.mp hx with hx | hx
    · exact hc x hx
    · rw [List.mem_singleton.mp hx]
      exact hm
  · subst e
    rw [rangeD_len] at hl
    have hl1 : (cs.map fun c => D.str [c]).length ≤ line := by
      rw [List.length_map]
      unfold line
      omega
    have ej : vBm (S.length :: rs) .join (.str []) [.lst (cs.map fun c => D.str [c])] S2 = .ok (.str cs) S2 := by
      simp only [vBm, vJoin, seqOf, bind_sm, texts_map1, join1, sum1, List.length_nil, Nat.mul_zero, Nat.add_zero, okIf]
      rw [if_pos (by simp only [decide_eq_true_eq]; unfold line; omega)]
    rw [ej]
    refine ⟨hl1, ?_⟩
    decreasing_trivial
    refine pull_w hP d2.1 (by omega) (by omega) fun a S3 a0 a1 d3 => ?_
    refine pull_w (m := 26) hP d3.1 (by decide) (by decide) fun f S4 f0 f1 d4 => ?_
    rw [rngD (n := n) (by simp)]
    refine ⟨by unfold line; omega, ⟨by omega, by omega⟩, comp_mm (fun i => .str (nmW cs a f i)) (by simp) (fun i hi => ?_) ?_⟩
    · decreasing_trivial
      simp only [bin_mul3, ok_ok, bin_add, bi_int, bin_mod26]
      rw [idx_let (by omega) (by omega)]
      have q1 := cut_len (x := cs) (lo := none) (hi := some a)
      have q2 := cut_len (x := cs) (lo := some a) (hi := none)
      decreasing_trivial
      exact ⟨decide_eq_true (by unfold line; omega), decide_eq_true (by rw [List.length_append]; simp only [List.length_singleton]; unfold line; omega), rfl⟩
    · refine ⟨by simp; unfold line; omega, ?_⟩
      rw [show ((List.range n).map fun i => D.str (nmW cs a f i)) = ((List.range n).map fun i => nmW cs a f i).map D.str by rw [List.map_map]; rfl]
      refine comp_mm (fun w => .str (fixW w)) (by simp) (fun w hw => ?_) ?_
      · decreasing_trivial
        simp only [res_fold, flat_strs, mem_strs]
        obtain ⟨i, _, rfl⟩ := List.mem_map.mp hw
        have hl2 := nmW_len (st := cs) (f := f) (k := i) a0 (by omega)
        generalize nmW cs a f i = w at hl2
        have e6 : decide (w.length + 1 ≤ line) = true := decide_eq_true (by unfold line; omega)
        have e7 : 6 ≤ line := by unfold line; omega
        unfold fixW
        cases reserved.contains w <;> simp [e6, e7]
      · refine ⟨by simp; unfold line; omega, ?_⟩
        have e : ((List.range n).map fun i => nmW cs a f i).map (fun w => D.str (fixW w)) = (namesL cs a f n).map D.str := by
          unfold namesL
          rw [List.map_map, List.map_map]
          rfl
        rw [e]
        have ok := names_ok (n := n) (st := cs) (a := a) (f := f) a0 (by omega) (by omega) hc f0 hn
        refine endQ_lo (by simp only [D.lo, lo_strs]) ?_ (K _ S4 ?_ ok.1 ok.2 ?_)
        · rw [d4.len, d3.len, d2.len, d1.len]
        · simp [namesL]
        · exact ((d1.trans d2).trans d3).trans d4
/-! ### specs -/
theorem cut_map {α β : Type} {f : α → β} {xs : List α} {lo hi : Option Int} : cut (xs.map f) lo hi = (cut xs lo hi).map f := by
  unfold cut
  simp only [List.length_map, List.map_take, List.map_drop]
theorem insT_len (x : List Nat) : ∀ ws : List (List Nat), (insT x ws).length = ws.length + 1
  | [] => rfl
  | y :: ys => by
    unfold insT
    split
    · rw [List.length_cons, insT_len x ys, List.length_cons]
    · rfl
theorem sortT_len : ∀ ws : List (List Nat), (sortT ws).length = ws.length
  | [] => rfl
  | y :: ys => by
    unfold sortT
    rw [insT_len, sortT_len ys, List.length_cons]
theorem idx_ws {ws : List (List Nat)} {i : Nat} (h : i < ws.length) : vIdx (.lst (ws.map D.str)) (.int (i : Int)) S = .ok (.str ws[i]) S := by
  have h2 : i < (ws.map D.str).length := by rw [List.length_map]; exact h
  have p : place (i : Int) (ws.map D.str).length = some i := by
    unfold place
    rw [if_pos (Int.natCast_nonneg i), Int.toNat_natCast, if_pos h2]
  simp only [vIdx, seqOf, p, List.getElem?_map, List.getElem?_eq_getElem h]
  rfl
structure Spec (ss : List (List Nat)) (ms : List (List Nat × Int)) : Prop where
  s1 : 1 ≤ ss.length
  s2 : ss.length ≤ 2
  m2 : ms.length ≤ 2
  gs : goodWs ss = true
  ga : goodWs (ss ++ ms.map (·.1)) = true
  ar : ∀ q ∈ ms, okWord q.1 = true ∧ 1 ≤ q.2 ∧ q.2 ≤ 2
  nd : (ss ++ ms.map (·.1)).Nodup
def specD (ss : List (List Nat)) (ms : List (List Nat × Int)) (qs : List (List Nat)) : D := .tup [.lst (ss.map D.str), .lst (ms.map pairD), .lst (qs.map D.str)]
theorem spec_w {mo : Nat} (h30 : Pg.fd 30 = some Fd.f__law_spec) (hN : Pg.fd 29 = some Fd.f__law_names) (hO : Pg.fd 25 = some Fd.f__law_of) (hP : Pg.fd 24 = some Fd.f__law_pull) (h : Bag S b) (hm : 1 ≤ mo) (hm2 : mo ≤ 1000)
    (K : ∀ (ss : List (List Nat)) (ms : List (List Nat × Int)) (qs : List (List Nat)) S', Spec ss ms → Drew S S' b → Q (specD ss ms qs) S') : Ok (callX (cxt Pg (k + 4)) rs false 30 [.ref b, .int mo] [] [] S) E Q := by
  refine call_w (vs := [.ref b, .int mo]) h30 rfl ?_
  simp only [Fd.f__law_spec]
  decreasing_trivial
  refine names_w (n := 9) hN hO hP h (by omega) fun ws S1 wl wo wn d1 => ?_
  decreasing_trivial
  refine pull_w (m := 3) hP d1.1 (by decide) (by decide) fun r S2 r0 r3 d2 => ?_
  rw [fdivV (by decide) (by decide)]
  decreasing_trivial
  refine pull_w (m := 3) hP d2.1 (by decide) (by decide) fun j S3 j0 j3 d3 => ?_
  decreasing_trivial
  refine ⟨⟨by omega, by omega⟩, comp_w (fun i ys S' => ∃ ms : List (List Nat × Int), ys = ms.map pairD ∧ ms.map (·.1) = (ws.drop 2).take i ∧ (∀ q ∈ ms, 1 ≤ q.2 ∧ q.2 ≤ 2) ∧ Drew S3 S' b) rfl ⟨[], rfl, rfl, by simp, .refl d3.1⟩ (fun i d ys S' hd ⟨ms, e, hl, hc, dr⟩ => ?_) fun ys S4 ⟨ms, e, hl, hc, d4⟩ => ?_⟩
  · rw [rangeD_map, List.getElem?_map] at hd
    obtain ⟨i', hi, rfl⟩ := Option.map_eq_some_iff.mp hd
    obtain ⟨hi1, hi2⟩ := List.getElem?_eq_some_iff.mp hi
    rw [List.getElem_range] at hi2
    subst hi2
    rw [List.length_range] at hi1
    have hi9 : 2 + i < ws.length := by omega
    decreasing_trivial
    rw [show (2 : Int) + (0 + (i : Int)) = ((2 + i : Nat) : Int) by omega, idx_ws hi9]
    decreasing_trivial
    refine pull_w (m := 2) hP dr.1 (by decide) (by decide) fun v S'' v0 v2 d5 => ?_
    have e7 : 2 ≤ line := by unfold line; omega
    decreasing_trivial
    refine ⟨e7, ms ++ [(ws[2 + i], 1 + v)], by rw [e, List.map_append]; rfl, ?_, fun q hq => ?_, dr.trans d5⟩
    · rw [List.map_append, hl, List.take_add_one, List.getElem?_drop, List.getElem?_eq_getElem hi9]
      rfl
    · rcases List.mem_append.mp hq with hq | hq
      · exact hc q hq
      · rw [List.mem_singleton.mp hq]
        exact ⟨by show 1 ≤ 1 + v; omega, by show 1 + v ≤ 2; omega⟩
  · subst e
    rw [rangeD_len] at hl
    have hm2' : ms.length ≤ 2 := by
      have := congrArg List.length hl
      rw [List.length_map, List.length_take] at this
      omega
    refine ⟨by rw [List.length_map]; unfold line; omega, pull_w hP d4.1 (by omega) (by omega) fun x S5 x0 x1 d5 => ?_⟩
    have e7 : 3 ≤ line := by unfold line; omega
    have e8 : vBi false .sorted [.lst (cut (ws.map D.str) (some 5) (some (6 + x)))] S5 = .ok (.lst ((sortT (cut ws (some 5) (some (6 + x)))).map D.str)) S5 := by
      rw [cut_map]
      have q := cut_len (x := ws) (lo := some 5) (hi := some (6 + x))
      have q2 := sortT_len (cut ws (some 5) (some (6 + x)))
      simp only [vBi, vBi1, lstOf, bind_sm, texts_map]
      rw [if_pos (by omega)]
      unfold mkList
      rw [if_pos (by rw [List.length_map]; unfold line; omega)]
      rfl
    decreasing_trivial
    rw [e8, cut_map]
    refine ⟨e7, ?_⟩
    have cl : cut ws none (some (1 + r / 2)) = ws.take (1 + r / 2).toNat := by
      have c : clip ws.length ws.length (some (1 + r / 2)) = (1 + r / 2).toNat := by
        unfold clip
        simp only
        rw [if_pos (by omega), Nat.min_eq_left (by omega)]
      unfold cut
      rw [c]
      rfl
    have sub : (cut ws none (some (1 + r / 2)) ++ ms.map (·.1)).Sublist ws := by
      rw [cl, hl]
      have s1 : (ws.take (1 + r / 2).toNat).Sublist (ws.take 2) := List.take_sublist_take_left (by omega)
      have s2 : ((ws.drop 2).take j.toNat).Sublist (ws.drop 2) := List.take_sublist _ _
      have := s1.append s2
      rwa [List.take_append_drop] at this
    have gW : ∀ vs : List (List Nat), vs.Sublist ws → goodWs vs = true := fun vs hv => good_of (fun w hw => wo w (hv.subset hw)) (wn.sublist hv)
    refine endQ_lo ?_ ?_ (K _ ms _ S5 ⟨?_, ?_, hm2', ?_, ?_, fun q hq => ⟨?_, hc q hq⟩, ?_⟩ ?_)
    · simp only [D.lo, loL, lo_strs, lo_pairs, Bool.and_self]
    · rw [d5.len, d4.len, d3.len, d2.len, d1.len]
    · rw [cl, List.length_take]
      omega
    · rw [cl, List.length_take]
      omega
    · rw [cl]
      exact gW _ (List.take_sublist _ _)
    · exact gW _ sub
    · refine wo _ ?_
      have : q.1 ∈ (ws.drop 2).take j.toNat := by
        rw [← hl]
        exact List.mem_map_of_mem hq
      exact List.mem_of_mem_drop (List.mem_of_mem_take this)
    · exact wn.sublist sub
    · exact (((d1.trans d2).trans d3).trans d4).trans d5
end
end OM
set_option Elab.async false
set_option linter.all false
set_option maxRecDepth 100000
set_option maxHeartbeats 1000000
/-! OmGen6: drawn trees, bent trees. -/
namespace OM
section
variable {Pg : Prog} {k b : Nat} {rs : List Nat} {S : Sto} {F : Fr} {E Q : PrE}
theorem plain_pairs : ∀ ms : List (List Nat × Int), plainL (ms.map pairD) = true
  | [] => rfl
  | q :: ms => by simp [plainL, D.plain, pairD, plain_pairs ms]
theorem dep_pairs : ∀ ms : List (List Nat × Int), depL (ms.map pairD) ≤ 1
  | [] => by simp [depL]
  | q :: ms => by
    have := dep_pairs ms
    simp only [List.map_cons, depL, pairD, D.dep]
    omega
@[simp] theorem cmp_pnil {ms : List (List Nat × Int)} : vCmp .eq (.lst (ms.map pairD)) (.lst []) S = .ok (.bl ms.isEmpty) S := by
  rw [cmp_eq (by simp only [D.plain, plain_pairs]) rfl (by have := dep_pairs ms; simp only [D.dep]; omega) (by simp [D.dep, depL])]
  cases ms <;> rfl
@[simp] theorem bin_p29 : vBin .pow (.int 10) (.int 29) S = .ok (.int 100000000000000000000000000000) S := rfl
@[simp] theorem le_line0 : (0 ≤ line) = True := by simp
@[simp] theorem le_line1 : (1 ≤ line) = True := by simp [line]
@[simp] theorem le_line2 : (2 ≤ line) = True := by simp [line]
@[simp] theorem le_line3 : (3 ≤ line) = True := by simp [line]
@[simp] theorem le_line4 : (4 ≤ line) = True := by simp [line]
theorem arOf_of {q : List Nat × Int} : ∀ {ms : List (List Nat × Int)}, q ∈ ms → (ms.map (·.1)).Nodup → arOf q.1 ms = some q.2
  | p :: r, hq, hn => by
    rw [List.map_cons, List.nodup_cons] at hn
    unfold arOf
    rcases List.mem_cons.mp hq with rfl | hq
    · rw [if_pos (beq_self_eq_true _)]
    · rw [if_neg, arOf_of hq hn.2]
      intro z
      refine hn.1 ?_
      rw [eq_of_beq z]
      exact List.mem_map_of_mem hq
local macro_rules
  | `(tactic| decreasing_trivial) => `(tactic| simp only [ok_ok, ok_bad, ok_exc, ok_bind, okO_some, okO_none, ok_okIf, ok_ite, w_slot, w_cst, w_glo, w_bin, w_cmp, w_neg, w_chain, w_bop, w_B1, w_B2, w_not, w_ite, w_L0, w_L1, w_call, w_bcall, w_isin, w_bmeth, w_meth, w_make, w_attr, w_own, w_dist, w_D0, w_D1, w_dsp, w_idx, w_O0, w_O1, w_sli, w_tup, w_lst, w_comp, ok_mkF, ok_mkT, w_ov, w_rng1, s_nx, s_ret, s_bad, s_exc, s_run, s_nil, s_cons, s_exp, s_rete, s_retN, s_pas, s_brk, s_cnt, s_set, s_unp, s_par, s_cond, s_sub, s_fld, s_aug, s_raise, s_loop, s_body, bindT_one, bindT_tup, setN_nil, setN_cons, cxt_glob, cxt_cl, endQ_self, endE_self, frz_bl, frz_int, frz_str, frz_non, tr_bl, ii_1, ii_2, l07, l17, l27, l37, l47, l57, l67, ii_l1, ii_l2, ii_t1, ii_t2, pl_str, pl_int, pl_bl, pl_non, pl_tup, pl_lst, pl_nil, pl_cons, kD_str, kD_int, kD_bl, kD_non, kD_tup, kD_lst, ki_01, ki_02, ki_03, ki_04, ki_05, ki_06, ki_11, ki_12, ki_13, ki_14, ki_15, ki_16, ki_21, ki_22, ki_23, ki_24, ki_25, ki_26, ki_31, ki_32, ki_33, ki_34, ki_35, ki_36, ki_41, ki_42, ki_43, ki_44, ki_45, ki_46, ki_51, ki_52, ki_53, ki_54, ki_55, ki_56, ki_61, ki_62, ki_63, ki_64, ki_65, ki_66, isBl_bl, negD_int, intD_int, cmp_lt, cmp_le, cmp_gt, cmp_ge, cmp_eqi, cmp_nei, cmp_eqs, cmp_is, cmp_isn, flat_strs, mem_strs, cmp_inT, cmp_inL, cmp_ninT, cmp_inS, bin_add, bin_sub, bin_adds, bin_addt, bin_addl, bi_lenS, bi_lenT, bi_lenL, bi_tupL, bi_tupT, bi_int, bi_all, src_len, it_s, it_t, it_l, sl_one, sl_tup, wi_nil, wi_cons, w_why, idx0, idx1, idxl0, seq_t, seq_l, texts_map, bind_sm, sli1, bi_max, sliS, sliL, cmp_pnil, bin_p29, le_line0, le_line1, le_line2, le_line3, le_line4, turn_w, List.length_cons, List.length_nil, List.length_map, List.getElem?_cons_succ, List.getElem?_cons_zero, List.set_cons_zero, List.set_cons_succ, List.map_cons, List.map_nil, List.replicate_succ, List.replicate_zero, List.nil_append, List.cons_append, List.append_nil, List.tail_cons, List.headD_cons, List.head?_cons, Nat.reduceSub, Nat.reduceAdd, reduceIte, Bool.not_true, Bool.not_false, true_implies, forall_const, and_true, true_and, implies_true, reduceCtorEq, ne_eq, not_true_eq_false, not_false_eq_true, false_implies, and_self, if_true, if_false, Bool.false_eq_true, Bool.true_eq_false, okO_none, Option.some.injEq, Bool.or_true, Bool.true_or, Bool.false_or, Bool.or_false, Bool.and_true, Bool.true_and, Bool.and_false, Bool.false_and, decide_true, decide_false, eq_self])
local macro_rules
  | `(tactic| decreasing_trivial_pre_omega) => `(tactic| simp only [ok_ok, ok_bad, ok_exc, ok_bind, okO_some, okO_none, ok_okIf, ok_ite, w_slot, w_cst, w_glo, w_bin, w_cmp, w_neg, w_chain, w_bop, w_B1, w_B2, w_not, w_ite, w_L0, w_L1, w_call, w_bcall, w_isin, w_bmeth, w_meth, w_make, w_attr, w_own, w_dist, w_D0, w_D1, w_dsp, w_idx, w_O0, w_O1, w_sli, w_tup, w_lst, w_comp, ok_mkF, ok_mkT, w_ov, w_rng1, s_nx, s_ret, s_bad, s_exc, s_run, s_nil, s_cons, s_exp, s_rete, s_retN, s_pas, s_brk, s_cnt, s_set, s_unp, s_par, s_cond, s_sub, s_fld, s_aug, s_raise, s_loop, s_body, bindT_one, bindT_tup, setN_nil, setN_cons, cxt_glob, cxt_cl, endQ_self, endE_self, frz_bl, frz_int, frz_str, frz_non, tr_bl, ii_1, ii_2, l07, l17, l27, l37, l47, l57, l67, ii_l1, ii_l2, ii_t1, ii_t2, pl_str, pl_int, pl_bl, pl_non, pl_tup, pl_lst, pl_nil, pl_cons, kD_str, kD_int, kD_bl, kD_non, kD_tup, kD_lst, ki_01, ki_02, ki_03, ki_04, ki_05, ki_06, ki_11, ki_12, ki_13, ki_14, ki_15, ki_16, ki_21, ki_22, ki_23, ki_24, ki_25, ki_26, ki_31, ki_32, ki_33, ki_34, ki_35, ki_36, ki_41, ki_42, ki_43, ki_44, ki_45, ki_46, ki_51, ki_52, ki_53, ki_54, ki_55, ki_56, ki_61, ki_62, ki_63, ki_64, ki_65, ki_66, isBl_bl, negD_int, intD_int, cmp_lt, cmp_le, cmp_gt, cmp_ge, cmp_eqi, cmp_nei, cmp_eqs, cmp_is, cmp_isn, flat_strs, mem_strs, cmp_inT, cmp_inL, cmp_ninT, cmp_inS, bin_add, bin_sub, bin_adds, bin_addt, bin_addl, bi_lenS, bi_lenT, bi_lenL, bi_tupL, bi_tupT, bi_int, bi_all, src_len, it_s, it_t, it_l, sl_one, sl_tup, wi_nil, wi_cons, w_why, idx0, idx1, idxl0, seq_t, seq_l, texts_map, bind_sm, sli1, bi_max, sliS, sliL, cmp_pnil, bin_p29, le_line0, le_line1, le_line2, le_line3, le_line4, turn_w, List.length_cons, List.length_nil, List.length_map, List.getElem?_cons_succ, List.getElem?_cons_zero, List.set_cons_zero, List.set_cons_succ, List.map_cons, List.map_nil, List.replicate_succ, List.replicate_zero, List.nil_append, List.cons_append, List.append_nil, List.tail_cons, List.headD_cons, List.head?_cons, Nat.reduceSub, Nat.reduceAdd, reduceIte, Bool.not_true, Bool.not_false, true_implies, forall_const, and_true, true_and, implies_true, reduceCtorEq, ne_eq, not_true_eq_false, not_false_eq_true, false_implies, and_self, if_true, if_false, Bool.false_eq_true, Bool.true_eq_false, okO_none, Option.some.injEq, Bool.or_true, Bool.true_or, Bool.false_or, Bool.or_false, Bool.and_true, Bool.true_and, Bool.and_false, Bool.false_and, decide_true, decide_false, eq_self, *])
theorem tree_w {ss : List (List Nat)} {ms : List (List Nat × Int)} {qs : List (List Nat)} (hT : Pg.fd 32 = some Fd.f__law_tree) (hO : Pg.fd 25 = some Fd.f__law_of) (hP : Pg.fd 24 = some Fd.f__law_pull) (sp : Spec ss ms) : ∀ (n k : Nat) (rs : List Nat) (S : Sto) (E Q : PrE), n + 4 ≤ k → Bag S b → (∀ d S', isTr ss ms (max n 1) d = true → Drew S S' b → Q d S') → Ok (callX (cxt Pg k) rs false 32 [.ref b, specD ss ms qs, .int n] [] [] S) E Q
  | n, 0, rs, S, E, Q, hk, h, K => by omega
  | n, k + 1, rs, S, E, Q, hk, h, K => by
    obtain ⟨j, rfl⟩ : ∃ j, k = j + 2 := ⟨k - 2, by omega⟩
    refine call_w (vs := [.ref b, specD ss ms qs, .int n]) hT rfl ?_
    simp only [Fd.f__law_tree, specD, s_cons]
    have hs : ∀ d ∈ ss.map D.str, d.plain = true := fun d hd => by
      obtain ⟨w, _, rfl⟩ := List.mem_map.mp hd
      rfl
    have leaf : ∀ (S1 : Sto) N, Drew S S1 b → OkS (evSs (cxt Pg (j + 2)) (S.length :: rs) [.ret (.tup [.call false 25 [.slot 0, .idx (.slot 1) (.cst (.int 0))] [] [], .call false 25 [.slot 0, .lst false [.cst (.int 0), .cst (.int 1), .cst (.int 2), .call false 24 [.slot 0, .bin .pow (.cst (.int 10)) (.cst (.int 29))] [] []]] [] []])] [some (.ref b), some (.tup [.lst (ss.map D.str), .lst (ms.map pairD), .lst (qs.map D.str)]), some (.int n), none, none, none] S1) ⟨EndE S E, noF, noF, EndQ S Q⟩ N := by
      intro S1 N d1
      have s1 := sp.s1
      have s2 := sp.s2
      decreasing_trivial
      refine ofL_w hO hP d1.1 (by rw [List.length_map]; omega) (by rw [List.length_map]; omega) hs fun w S2 hw d2 => ?_
      refine pull_w hP d2.1 (by decide) (by decide) fun v S3 v0 v1 d3 => ?_
      obtain ⟨w, hw0, rfl⟩ := List.mem_map.mp hw
      refine ofL_w hO hP d3.1 (by simp) (by simp) (by intro d hd; simp at hd; rcases hd with rfl | rfl | rfl | rfl <;> rfl) fun a S4 ha d4 => ?_
      have hi : ∃ i, a = .int i ∧ 0 ≤ i := by
        simp at ha
        rcases ha with rfl | rfl | rfl | rfl
        · exact ⟨_, rfl, by decide⟩
        · exact ⟨_, rfl, by decide⟩
        · exact ⟨_, rfl, by decide⟩
        · exact ⟨_, rfl, v0⟩
      obtain ⟨i, rfl, hi⟩ := hi
      refine endQ_lo rfl (by rw [d4.len, d3.len, d2.len, d1.len]) (K _ _ ?_ (((d1.trans d2).trans d3).trans d4))
      obtain ⟨m, hm⟩ : ∃ m, max n 1 = m + 1 := ⟨max n 1 - 1, by omega⟩
      rw [hm]
      simp only [isTr, List.contains_iff_mem.mpr hw0, natD, decide_eq_true hi]
      rfl
    rw [s_cond]
    refine Ok.mono (E := EndE S E) (Q := fun x S1 => ∃ t, x = .bl t ∧ Drew S S1 b ∧ (t = false → 2 ≤ n ∧ ms ≠ [])) ?_ (fun _ _ z => z) ?_
    · decreasing_trivial
      refine ⟨fun h1 => ⟨fun h2 => ?_, fun h2 => ?_⟩, fun h1 => ?_⟩
      · refine pull_w (m := 4) hP h (by decide) (by decide) fun v S1 v0 v1 d1 => ?_
        decreasing_trivial
        exact ⟨_, rfl, d1, fun _ => ⟨by have := of_decide_eq_false h1; omega, by rintro rfl; cases h2⟩⟩
      · have h2 : ms.isEmpty = true := by simpa using h2
        exact ⟨_, rfl, .refl h, fun z => by rw [h2] at z; cases z⟩
      · have h1 : decide ((n : Int) < 2) = true := by simpa using h1
        exact ⟨_, rfl, .refl h, fun z => by rw [h1] at z; cases z⟩
    · rintro x S1 ⟨t, rfl, d1, hne⟩
      rw [tr_bl, okO_some]
      refine ⟨fun _ => leaf S1 _ d1, fun ht => ?_⟩
      obtain ⟨n2, mne⟩ := hne ht
      obtain ⟨m, rfl⟩ : ∃ m, n = m + 1 := ⟨n - 1, by omega⟩
      have hm2 := sp.m2
      have hp : ∀ d ∈ ms.map pairD, d.plain = true := fun d hd => by
        obtain ⟨w, _, rfl⟩ := List.mem_map.mp hd
        rfl
      decreasing_trivial
      refine ofL_w hO hP d1.1 (by rw [List.length_map]; exact List.length_pos_iff.mpr mne) (by rw [List.length_map]; omega) hp fun w S2 hw d2 => ?_
      obtain ⟨q, hq, rfl⟩ := List.mem_map.mp hw
      have har := sp.ar q hq
      simp only [pairD]
      decreasing_trivial
      have e6 : ((m + 1 : Nat) : Int) - 1 = m := by omega
      refine ⟨⟨by omega, by omega⟩, comp_w (fun i ys S' => ys.length = i ∧ (∀ d ∈ ys, isTr ss ms (max m 1) d = true) ∧ Drew S2 S' b) rfl ⟨rfl, by simp, .refl d2.1⟩ (fun i d ys S' hd ⟨hl, hc, dr⟩ => ?_) fun ys S3 ⟨hl, hc, d3⟩ => ?_⟩
      · decreasing_trivial
        rw [e6]
        refine tree_w hT hO hP sp m (j + 2) _ S' _ _ (by omega) dr.1 fun d S'' hd d3 => ⟨by rw [List.length_append, hl]; rfl, fun x hx => ?_, dr.trans d3⟩
        rcases List.mem_append.mp hx with hx | hx
        · exact hc x hx
        · rw [List.mem_singleton.mp hx]
          exact hd
      · rw [rangeD_len] at hl
        refine ⟨by unfold line; omega, ?_⟩
        have hlen : ys.length = q.2.toNat := hl
        refine ⟨decide_eq_true (by unfold line; omega), ?_⟩
        refine endQ_lo ?_ (by rw [d3.len, d2.len, d1.len]) (K _ _ ?_ ((d1.trans d2).trans d3))
        · have : ∀ d ∈ ys, d.plain = true := fun d hd => (shT_plain (isTr_sh (fun q hq => by have := sp.ar q hq; omega) (hc d hd))).1
          simp only [D.lo, loL, plainL_lo (plainL_of this), Bool.and_self]
        · rw [show max (m + 1) 1 = m + 1 by omega]
          rw [show max m 1 = m by omega] at hc
          have nd := List.nodup_append.mp sp.nd
          have c1 : ss.contains q.1 = false := by
            rw [Bool.eq_false_iff]
            intro z
            exact nd.2.2 _ (List.contains_iff_mem.mp z) _ (List.mem_map_of_mem hq) rfl
          have c2 := arOf_of hq nd.2.1
          cases ys with
          | nil =>
            simp at hlen
            omega
          | cons a r =>
            simp only [isTr, c1, c2, Bool.false_eq_true, if_false, Bool.and_eq_true, decide_eq_true_eq, List.all_eq_true]
            exact ⟨by simp only [List.length_cons] at hlen; omega, hc⟩
end
end OM
set_option Elab.async false
set_option linter.all false
set_option maxRecDepth 100000
set_option maxHeartbeats 1000000
/-! OmGen7: paths in trees, bent trees. -/
namespace OM
section
variable {Pg : Prog} {k b : Nat} {rs : List Nat} {S : Sto} {F : Fr} {E Q : PrE} {ss : List (List Nat)} {ms : List (List Nat × Int)}
theorem isTr_mono : ∀ {n m : Nat} {d : D}, n ≤ m → isTr ss ms n d = true → isTr ss ms m d = true
  | n, m, d, hn, h => by
    obtain ⟨n', w, a, r, rfl, rfl, h'⟩ := isTr_inv h
    obtain ⟨m', rfl⟩ : ∃ m', m = m' + 1 := ⟨m - 1, by omega⟩
    rcases h' with ⟨h1, rfl, i, rfl, h2⟩ | ⟨h1, c, h2, h3, h4⟩
    · simp only [isTr, h1, if_true, natD, decide_eq_true h2]
      rfl
    · simp only [isTr, h1, h2, Bool.false_eq_true, if_false, Bool.and_eq_true, decide_eq_true_eq, List.all_eq_true]
      exact ⟨h3, fun x hx => isTr_mono (by omega) (h4 x hx)⟩
/-- the part at a path -/
def atP : D → List Nat → Option D
  | d, [] => some d
  | .tup xs, i :: p => if i = 0 then none else match xs[i]? with
    | some d => if isWholeD d then none else atP d p
    | none => none
  | _, _ :: _ => none
/-- another part there -/
def putP : D → List Nat → D → D
  | _, [], l => l
  | .tup xs, i :: p, l => match xs[i]? with
    | some d => .tup (xs.take i ++ [putP d p l] ++ xs.drop (i + 1))
    | none => .non
  | _, _ :: _, _ => .non
theorem putP_no {l : D} (hl : ∀ n, isTr ss ms n l = false) : ∀ {p : List Nat} {d : D} {n0 : Nat}, isTr ss ms n0 d = true → (atP d p).isSome = true → ∀ n, isTr ss ms n (putP d p l) = false
  | [], d, n0, ho, h, n => by
    rw [show putP d [] l = l by cases d <;> rfl]
    exact hl n
  | i :: p, .tup xs, n0, ho, h, n => by
    unfold atP at h
    by_cases i0 : i = 0
    · rw [if_pos i0] at h
      cases h
    · rw [if_neg i0] at h
      cases hx : xs[i]? with
      | none =>
        rw [hx] at h
        cases h
      | some d =>
        rw [hx] at h
        dsimp only at h
        have hd : isWholeD d = false := by
          cases e : isWholeD d with
          | false => rfl
          | true =>
            rw [e, if_pos rfl] at h
            cases h
        rw [hd, if_neg (by simp)] at h
        obtain ⟨n1, w0, a0, r0, rfl, e0, h0⟩ := isTr_inv ho
        cases e0
        obtain ⟨i', rfl⟩ : ∃ i', i = i' + 1 := ⟨i - 1, by omega⟩
        rw [List.getElem?_cons_succ] at hx
        have hmem := List.mem_of_getElem? hx
        rcases h0 with ⟨h1, rfl, j, rfl, h2⟩ | ⟨h1, c, h2, h3, h4⟩
        · rw [List.mem_singleton.mp hmem] at hd
          cases hd
        have ih := putP_no hl (h4 d hmem) h
        rw [Bool.eq_false_iff]
        intro z
        unfold putP at z
        rw [List.getElem?_cons_succ, hx] at z
        dsimp only at z
        obtain ⟨m, w, a, r, rfl, e, h'⟩ := isTr_inv z
        rw [List.take_succ_cons, List.drop_succ_cons, List.cons_append, List.cons_append, D.tup.injEq, List.cons.injEq, D.str.injEq] at e
        obtain ⟨rfl, e⟩ := e
        rcases h' with ⟨k1, _⟩ | ⟨_, c, _, _, k4⟩
        · rw [h1] at k1
          cases k1
        · have := k4 (putP d p l) (by rw [← e]; simp)
          rw [ih] at this
          cases this
  | i :: p, .non, n0, ho, h, n => by cases h
  | i :: p, .bl _, n0, ho, h, n => by cases h
  | i :: p, .int _, n0, ho, h, n => by cases h
  | i :: p, .str _, n0, ho, h, n => by cases h
  | i :: p, .lst _, n0, ho, h, n => by cases h
  | i :: p, .dct _ _, n0, ho, h, n => by cases h
  | i :: p, .obj _ _ _, n0, ho, h, n => by cases h
  | i :: p, .exc _ _ _, n0, ho, h, n => by cases h
  | i :: p, .ref _, n0, ho, h, n => by cases h
  | i :: p, .fn _, n0, ho, h, n => by cases h
  | i :: p, .cls _, n0, ho, h, n => by cases h
  | i :: p, .ty _, n0, ho, h, n => by cases h
  | i :: p, .frz _, n0, ho, h, n => by cases h
theorem atP_inv {d : D} {i : Nat} {p : List Nat} (h : (atP d (i :: p)).isSome = true) : ∃ xs y, d = .tup xs ∧ i ≠ 0 ∧ xs[i]? = some y ∧ isWholeD y = false ∧ (atP y p).isSome = true := by
  cases d with
  | tup xs =>
    unfold atP at h
    by_cases i0 : i = 0
    · rw [if_pos i0] at h
      cases h
    · rw [if_neg i0] at h
      cases hx : xs[i]? with
      | none =>
        rw [hx] at h
        cases h
      | some y =>
        rw [hx] at h
        dsimp only at h
        cases e : isWholeD y with
        | true =>
          rw [e, if_pos rfl] at h
          cases h
        | false =>
          rw [e, if_neg (by simp)] at h
          exact ⟨xs, y, rfl, i0, hx, e, h⟩
  | _ => cases h
theorem mem_set3 {α : Type} {xs : List α} {i : Nat} {y x : α} (h : x ∈ xs.take i ++ [y] ++ xs.drop (i + 1)) : x ∈ xs ∨ x = y := by
  rcases List.mem_append.mp h with h | h
  · rcases List.mem_append.mp h with h | h
    · exact .inl (List.mem_of_mem_take h)
    · exact .inr (List.mem_singleton.mp h)
  · exact .inl (List.mem_of_mem_drop h)
theorem putP_fits {l : D} (hl : l.plain = true ∧ l.fit = true) : ∀ {p : List Nat} {d : D}, d.plain = true → d.fit = true → (atP d p).isSome = true → (putP d p l).plain = true ∧ (putP d p l).fit = true ∧ D.dep (putP d p l) ≤ D.dep d + D.dep l
  | [], d, h1, h2, h3 => by
    rw [show putP d [] l = l by cases d <;> rfl]
    exact ⟨hl.1, hl.2, by omega⟩
  | i :: p, .tup xs, h1, h2, h => by
    unfold atP at h
    by_cases i0 : i = 0
    · rw [if_pos i0] at h
      cases h
    · rw [if_neg i0] at h
      cases hx : xs[i]? with
      | none =>
        rw [hx] at h
        cases h
      | some d =>
        rw [hx] at h
        dsimp only at h
        have hd : isWholeD d = false := by
          cases e : isWholeD d with
          | false => rfl
          | true =>
            rw [e, if_pos rfl] at h
            cases h
        rw [hd, if_neg (by simp)] at h
        have hmem := List.mem_of_getElem? hx
        simp only [D.plain] at h1
        simp only [D.fit, Bool.and_eq_true, decide_eq_true_eq] at h2
        obtain ⟨i1, i2, i3⟩ := putP_fits hl (plainL_mem h1 hmem) (fitL_mem h2.2 hmem) h
        have dm := depL_mem hmem
        unfold putP
        rw [hx]
        dsimp only
        refine ⟨?_, ?_, ?_⟩
        · simp only [D.plain]
          refine plainL_of fun x hx => ?_
          rcases mem_set3 hx with hx | rfl
          · exact plainL_mem h1 hx
          · exact i1
        · simp only [D.fit, Bool.and_eq_true, decide_eq_true_eq]
          refine ⟨?_, fitL_of fun x hx => ?_⟩
          · have := (List.getElem?_eq_some_iff.mp hx).1
            simp only [List.length_append, List.length_take, List.length_drop, List.length_singleton]
            omega
          · rcases mem_set3 hx with hx | rfl
            · exact fitL_mem h2.2 hx
            · exact i2
        · simp only [D.dep]
          have : depL (xs.take i ++ [putP d p l] ++ xs.drop (i + 1)) ≤ depL xs + D.dep l := depL_le fun x hx => by
            rcases mem_set3 hx with hx | rfl
            · have := depL_mem hx
              omega
            · omega
          omega
  | i :: p, .non, h1, h2, h => by cases h
  | i :: p, .bl _, h1, h2, h => by cases h
  | i :: p, .int _, h1, h2, h => by cases h
  | i :: p, .str _, h1, h2, h => by cases h
  | i :: p, .lst _, h1, h2, h => by cases h
  | i :: p, .dct _ _, h1, h2, h => by cases h
  | i :: p, .obj _ _ _, h1, h2, h => by cases h
  | i :: p, .exc _ _ _, h1, h2, h => by cases h
  | i :: p, .ref _, h1, h2, h => by cases h
  | i :: p, .fn _, h1, h2, h => by cases h
  | i :: p, .cls _, h1, h2, h => by cases h
  | i :: p, .ty _, h1, h2, h => by cases h
  | i :: p, .frz _, h1, h2, h => by cases h
theorem plain_ints : ∀ ns : List Nat, plainL (ns.map fun (i : Nat) => D.int (i : Int)) = true
  | [] => rfl
  | n :: ns => by simp [plainL, D.plain, plain_ints ns]
theorem dep_ints : ∀ ns : List Nat, depL (ns.map fun (i : Nat) => D.int (i : Int)) = 0
  | [] => rfl
  | n :: ns => by simp [depL, D.dep, dep_ints ns]
@[simp] theorem cmp_inil {ns : List Nat} : vCmp .eq (.lst (ns.map fun (i : Nat) => D.int (i : Int))) (.lst []) S = .ok (.bl ns.isEmpty) S := by
  rw [cmp_eq (by simp only [D.plain, plain_ints]) rfl (by simp only [D.dep, dep_ints]; omega) (by simp [D.dep, depL])]
  cases ns <;> rfl
theorem cut_to {α : Type} {xs : List α} {i : Nat} (h : i ≤ xs.length) : cut xs none (some (i : Int)) = xs.take i := by
  unfold cut clip
  simp only [Int.natCast_nonneg, if_true, Int.toNat_natCast, List.drop_zero, Nat.sub_zero]
  rw [Nat.min_eq_left h]
theorem cut_from {α : Type} {xs : List α} {i : Nat} (h : i ≤ xs.length) : cut xs (some (i : Int)) none = xs.drop i := by
  unfold cut clip
  simp only [Int.natCast_nonneg, if_true, Int.toNat_natCast]
  rw [Nat.min_eq_left h, List.take_of_length_le (by simp)]
theorem idx_t {xs : List D} {i : Nat} {d : D} (h : xs[i]? = some d) : vIdx (.tup xs) (.int (i : Int)) S = .ok d S := by
  have h2 := (List.getElem?_eq_some_iff.mp h).1
  have p : place (i : Int) xs.length = some i := by
    unfold place
    rw [if_pos (Int.natCast_nonneg i), Int.toNat_natCast, if_pos h2]
  simp only [vIdx, seqOf, p, h]
local macro_rules
  | `(tactic| decreasing_trivial) => `(tactic| simp only [ok_ok, ok_bad, ok_exc, ok_bind, okO_some, okO_none, ok_okIf, ok_ite, w_slot, w_cst, w_glo, w_bin, w_cmp, w_neg, w_chain, w_bop, w_B1, w_B2, w_not, w_ite, w_L0, w_L1, w_call, w_bcall, w_isin, w_bmeth, w_meth, w_make, w_attr, w_own, w_dist, w_D0, w_D1, w_dsp, w_idx, w_O0, w_O1, w_sli, w_tup, w_lst, w_comp, ok_mkF, ok_mkT, w_ov, w_rng1, s_nx, s_ret, s_bad, s_exc, s_run, s_nil, s_cons, s_exp, s_rete, s_retN, s_pas, s_brk, s_cnt, s_set, s_unp, s_par, s_cond, s_sub, s_fld, s_aug, s_raise, s_loop, s_body, bindT_one, bindT_tup, setN_nil, setN_cons, cxt_glob, cxt_cl, endQ_self, endE_self, frz_bl, frz_int, frz_str, frz_non, tr_bl, ii_1, ii_2, l07, l17, l27, l37, l47, l57, l67, ii_l1, ii_l2, ii_t1, ii_t2, pl_str, pl_int, pl_bl, pl_non, pl_tup, pl_lst, pl_nil, pl_cons, kD_str, kD_int, kD_bl, kD_non, kD_tup, kD_lst, ki_01, ki_02, ki_03, ki_04, ki_05, ki_06, ki_11, ki_12, ki_13, ki_14, ki_15, ki_16, ki_21, ki_22, ki_23, ki_24, ki_25, ki_26, ki_31, ki_32, ki_33, ki_34, ki_35, ki_36, ki_41, ki_42, ki_43, ki_44, ki_45, ki_46, ki_51, ki_52, ki_53, ki_54, ki_55, ki_56, ki_61, ki_62, ki_63, ki_64, ki_65, ki_66, isBl_bl, negD_int, intD_int, cmp_lt, cmp_le, cmp_gt, cmp_ge, cmp_eqi, cmp_nei, cmp_eqs, cmp_is, cmp_isn, flat_strs, mem_strs, cmp_inT, cmp_inL, cmp_ninT, cmp_inS, bin_add, bin_sub, bin_adds, bin_addt, bin_addl, bi_lenS, bi_lenT, bi_lenL, bi_tupL, bi_tupT, bi_int, bi_all, src_len, it_s, it_t, it_l, sl_one, sl_tup, wi_nil, wi_cons, w_why, idx0, idx1, idxl0, seq_t, seq_l, texts_map, bind_sm, sli1, bi_max, sliS, sliL, cmp_pnil, bin_p29, le_line0, le_line1, le_line2, le_line3, le_line4, cmp_inil, turn_w, List.length_cons, List.length_nil, List.length_map, List.getElem?_cons_succ, List.getElem?_cons_zero, List.set_cons_zero, List.set_cons_succ, List.map_cons, List.map_nil, List.replicate_succ, List.replicate_zero, List.nil_append, List.cons_append, List.append_nil, List.tail_cons, List.headD_cons, List.head?_cons, Nat.reduceSub, Nat.reduceAdd, reduceIte, Bool.not_true, Bool.not_false, true_implies, forall_const, and_true, true_and, implies_true, reduceCtorEq, ne_eq, not_true_eq_false, not_false_eq_true, false_implies, and_self, if_true, if_false, Bool.false_eq_true, Bool.true_eq_false, okO_none, Option.some.injEq, Bool.or_true, Bool.true_or, Bool.false_or, Bool.or_false, Bool.and_true, Bool.true_and, Bool.and_false, Bool.false_and, decide_true, decide_false, eq_self])
local macro_rules
  | `(tactic| decreasing_trivial_pre_omega) => `(tactic| simp only [ok_ok, ok_bad, ok_exc, ok_bind, okO_some, okO_none, ok_okIf, ok_ite, w_slot, w_cst, w_glo, w_bin, w_cmp, w_neg, w_chain, w_bop, w_B1, w_B2, w_not, w_ite, w_L0, w_L1, w_call, w_bcall, w_isin, w_bmeth, w_meth, w_make, w_attr, w_own, w_dist, w_D0, w_D1, w_dsp, w_idx, w_O0, w_O1, w_sli, w_tup, w_lst, w_comp, ok_mkF, ok_mkT, w_ov, w_rng1, s_nx, s_ret, s_bad, s_exc, s_run, s_nil, s_cons, s_exp, s_rete, s_retN, s_pas, s_brk, s_cnt, s_set, s_unp, s_par, s_cond, s_sub, s_fld, s_aug, s_raise, s_loop, s_body, bindT_one, bindT_tup, setN_nil, setN_cons, cxt_glob, cxt_cl, endQ_self, endE_self, frz_bl, frz_int, frz_str, frz_non, tr_bl, ii_1, ii_2, l07, l17, l27, l37, l47, l57, l67, ii_l1, ii_l2, ii_t1, ii_t2, pl_str, pl_int, pl_bl, pl_non, pl_tup, pl_lst, pl_nil, pl_cons, kD_str, kD_int, kD_bl, kD_non, kD_tup, kD_lst, ki_01, ki_02, ki_03, ki_04, ki_05, ki_06, ki_11, ki_12, ki_13, ki_14, ki_15, ki_16, ki_21, ki_22, ki_23, ki_24, ki_25, ki_26, ki_31, ki_32, ki_33, ki_34, ki_35, ki_36, ki_41, ki_42, ki_43, ki_44, ki_45, ki_46, ki_51, ki_52, ki_53, ki_54, ki_55, ki_56, ki_61, ki_62, ki_63, ki_64, ki_65, ki_66, isBl_bl, negD_int, intD_int, cmp_lt, cmp_le, cmp_gt, cmp_ge, cmp_eqi, cmp_nei, cmp_eqs, cmp_is, cmp_isn, flat_strs, mem_strs, cmp_inT, cmp_inL, cmp_ninT, cmp_inS, bin_add, bin_sub, bin_adds, bin_addt, bin_addl, bi_lenS, bi_lenT, bi_lenL, bi_tupL, bi_tupT, bi_int, bi_all, src_len, it_s, it_t, it_l, sl_one, sl_tup, wi_nil, wi_cons, w_why, idx0, idx1, idxl0, seq_t, seq_l, texts_map, bind_sm, sli1, bi_max, sliS, sliL, cmp_pnil, bin_p29, le_line0, le_line1, le_line2, le_line3, le_line4, cmp_inil, turn_w, List.length_cons, List.length_nil, List.length_map, List.getElem?_cons_succ, List.getElem?_cons_zero, List.set_cons_zero, List.set_cons_succ, List.map_cons, List.map_nil, List.replicate_succ, List.replicate_zero, List.nil_append, List.cons_append, List.append_nil, List.tail_cons, List.headD_cons, List.head?_cons, Nat.reduceSub, Nat.reduceAdd, reduceIte, Bool.not_true, Bool.not_false, true_implies, forall_const, and_true, true_and, implies_true, reduceCtorEq, ne_eq, not_true_eq_false, not_false_eq_true, false_implies, and_self, if_true, if_false, Bool.false_eq_true, Bool.true_eq_false, okO_none, Option.some.injEq, Bool.or_true, Bool.true_or, Bool.false_or, Bool.or_false, Bool.and_true, Bool.true_and, Bool.and_false, Bool.false_and, decide_true, decide_false, eq_self, *])
theorem with_c {l : D} (h33 : Pg.fd 33 = some Fd.f__law_with) (hl : l.plain = true ∧ l.fit = true) : ∀ (p : List Nat) (k : Nat) (d : D) (rs : List Nat) (S : Sto), p.length + 1 ≤ k → d.plain = true → d.fit = true → (atP d p).isSome = true → callX (cxt Pg k) rs false 33 [d, .lst (p.map fun (i : Nat) => D.int (i : Int)), l] [] [] S = .ok (putP d p l) S
  | p, 0, d, rs, S, hk, h1, h2, h => by omega
  | [], k + 1, d, rs, S, hk, h1, h2, h => by
    rw [show putP d [] l = l by cases d <;> rfl]
    refine Ok.eq (call_w (vs := [d, .lst [], l]) h33 rfl ?_)
    have e : vCmp .eq (.lst []) (.lst []) S = .ok (.bl true) S := cmp_inil (ns := [])
    simp only [Fd.f__law_with]
    decreasing_trivial_pre_omega
    exact ⟨l, frz_p hl.1, rfl⟩
  | i :: p, k + 1, d, rs, S, hk, h1, h2, h => by
    refine Ok.eq (call_w (vs := [d, .lst ((i :: p).map fun (i : Nat) => D.int (i : Int)), l]) h33 rfl ?_)
    obtain ⟨xs, y, rfl, i0, hx, hw, hp⟩ := atP_inv h
    have hmem := List.mem_of_getElem? hx
    have hlt := (List.getElem?_eq_some_iff.mp hx).1
    simp only [D.plain] at h1
    simp only [D.fit, Bool.and_eq_true, decide_eq_true_eq] at h2
    have ih := fun rs S => with_c h33 hl p k y rs S (by simp only [List.length_cons] at hk; omega) (plainL_mem h1 hmem) (fitL_mem h2.2 hmem) hp
    have pf := (putP_fits hl (plainL_mem h1 hmem) (fitL_mem h2.2 hmem) hp).1
    have e1 : ∀ S, vCmp .eq (.lst (.int (i : Int) :: p.map fun (i : Nat) => D.int (i : Int))) (.lst []) S = .ok (.bl false) S := fun S => cmp_inil (ns := i :: p)
    have e2 : ∀ S, vIdx (.tup xs) (.int (i : Int)) S = .ok y S := fun S => idx_t hx
    have e3 : ∀ S, vSli (.tup xs) none (some (i : Int)) S = .ok (.tup (xs.take i)) S := fun S => by
      show Out.ok (D.tup (cut xs none (some (i : Int)))) S = _
      rw [cut_to (by omega)]
    have e4 : ∀ S, vSli (.tup xs) (some ((i : Int) + 1)) none S = .ok (.tup (xs.drop (i + 1))) S := fun S => by
      show Out.ok (D.tup (cut xs (some ((i : Int) + 1)) none)) S = _
      rw [show (i : Int) + 1 = ((i + 1 : Nat) : Int) by omega, cut_from (by omega)]
    have e5 : ∀ S, vSli (.lst (.int (i : Int) :: p.map fun (i : Nat) => D.int (i : Int))) (some 1) none S = .ok (.lst (p.map fun (i : Nat) => D.int (i : Int))) S := fun S => by
      show Out.ok (D.lst (cut _ (some ((1 : Nat) : Int)) none)) S = _
      rw [cut_from (by simp)]
      rfl
    have e6 : putP (.tup xs) (i :: p) l = .tup (xs.take i ++ [putP y p l] ++ xs.drop (i + 1)) := by
      simp only [putP, hx]
    have e7 : (D.tup (xs.take i ++ [putP y p l] ++ xs.drop (i + 1))).plain = true := by
      simp only [D.plain]
      refine plainL_of fun x hx => ?_
      rcases mem_set3 hx with hx | rfl
      · exact plainL_mem h1 hx
      · exact pf
    have e8 : (xs.take i).length + 1 ≤ line := by
      rw [List.length_take]
      omega
    have e9 : (xs.take i ++ [putP y p l]).length + (xs.drop (i + 1)).length ≤ line := by
      simp only [List.length_append, List.length_take, List.length_drop, List.length_singleton]
      omega
    have e10 := fun S m => frz_p (S := S) (m := m) e7
    rw [e6]
    simp only [Fd.f__law_with]
    decreasing_trivial_pre_omega
end
end OM
set_option Elab.async false
set_option linter.all false
set_option maxRecDepth 100000
set_option maxHeartbeats 1000000
/-! OmGen8: drawn paths. -/
namespace OM
section
variable {Pg : Prog} {k b : Nat} {rs : List Nat} {S : Sto} {F : Fr} {E Q : PrE} {ss : List (List Nat)} {ms : List (List Nat × Int)}
theorem bag_app {T : Sto} {c : Cell} (h : Bag T b) : Bag (T ++ [c]) b := by
  have hlt := h.lt
  obtain ⟨ns, i, big, seed, e, r⟩ := h
  exact ⟨ns, i, big, seed, by rw [List.getElem?_append_left hlt]; exact e, r⟩
theorem drew_app {T S' : Sto} {c : Cell} (h : Bag T b) (d : Drew (T ++ [c]) S' b) : ∃ T', S' = T' ++ [c] ∧ Drew T T' b := by
  have hlt := h.lt
  obtain ⟨g, x, rfl⟩ := d
  refine ⟨T.set b x, by rw [List.set_append_left _ _ hlt], ?_, x, rfl⟩
  obtain ⟨ns, i, big, seed, e, r⟩ := g
  refine ⟨ns, i, big, seed, ?_, r⟩
  rw [List.set_append_left _ _ hlt, List.getElem?_append_left (by rw [List.length_set]; exact hlt)] at e
  exact e
theorem atP_snoc : ∀ {p : List Nat} {d y z : D} {xs : List D} {i : Nat}, atP d p = some y → y = .tup xs → i ≠ 0 → xs[i]? = some z → isWholeD z = false → atP d (p ++ [i]) = some z
  | [], d, y, z, xs, i, h, e, i0, hx, hz => by
    have : d = y := by cases d <;> (cases h; rfl)
    subst this e
    simp only [List.nil_append, atP, if_neg i0, hx, hz, Bool.false_eq_true, if_false]
  | j :: p, d, y, z, xs, i, h, e, i0, hx, hz => by
    obtain ⟨ys, u, rfl, j0, hu, hw, hp⟩ := atP_inv (by rw [h]; rfl)
    have h' : atP u p = some y := by
      simp only [atP, if_neg j0, hu, hw, Bool.false_eq_true, if_false] at h
      exact h
    simp only [List.cons_append, atP, if_neg j0, hu, hw, Bool.false_eq_true, if_false]
    exact atP_snoc h' e i0 hx hz
theorem atP_nil {d : D} : atP d [] = some d := by cases d <;> rfl
def intsD (p : List Nat) : List D := p.map fun (i : Nat) => D.int (i : Int)
theorem app_l {T : Sto} {p : List Nat} {n m : Nat} (h : T.length = n) (hp : p.length < 1000) : vBm rs .append (.ref n) [.int (m : Int)] (T ++ [.lst (intsD p)]) = .ok .non (T ++ [.lst (intsD (p ++ [m]))]) := by
  subst h
  have hf : fitsIn rs T.length (.int (m : Int)) = true := fits_noc fun _ => rfl
  have hl : (intsD p).length < line := by
    unfold intsD line
    rw [List.length_map]
    omega
  simp only [vBm, vAppend, get_l, hf, decide_eq_true hl, Bool.and_self, if_true, set_l]
  unfold intsD
  rw [List.map_append]
  rfl
theorem last_l {T : Sto} {p : List Nat} {n m : Nat} (h : T.length = n) : vIdx (.ref n) (.int (-1)) (T ++ [.lst (intsD (p ++ [m]))]) = .ok (.int (m : Int)) (T ++ [.lst (intsD (p ++ [m]))]) := by
  subst h
  have p1 : place (-1) (intsD (p ++ [m])).length = some p.length := by
    unfold place intsD
    rw [if_neg (by omega), List.length_map, List.length_append, List.length_singleton, if_pos (by omega)]
    congr 1
    omega
  have p2 : (intsD (p ++ [m]))[p.length]? = some (.int (m : Int)) := by
    unfold intsD
    rw [List.getElem?_map, List.getElem?_append_right (Nat.le_refl _), Nat.sub_self]
    rfl
  simp only [vIdx, seqOf, get_l, p1, p2]
theorem lo_ints {m : Nat} : ∀ p : List Nat, loL m (intsD p) = true
  | [] => rfl
  | i :: p => by
    have := lo_ints (m := m) p
    unfold intsD at this ⊢
    simp [loL, D.lo, this]
theorem frz_ll {T : Sto} {p : List Nat} {n : Nat} (h : T.length = n) : frz1 (T ++ [.lst (intsD p)]) n (.ref n) = some (.lst (intsD p)) := by
  subst h
  have e : frz1 (T ++ [.lst (intsD p)]) T.length (.ref T.length) = if T.length < T.length then some (.ref T.length) else match (T ++ [Cell.lst (intsD p)])[T.length]? with
    | some (.lst xs) => if loL T.length xs then some (.lst xs) else none
    | some (.dct ks vs) => if loL T.length ks && loL T.length vs then some (.dct ks vs) else none
    | some (.obj c ns vs) => if loL T.length vs then some (.obj c ns vs) else none
    | none => none := rfl
  rw [e, if_neg (Nat.lt_irrefl _), get_l]
  simp only [lo_ints, if_true]
local macro_rules
  | `(tactic| decreasing_trivial) => `(tactic| simp only [ok_ok, ok_bad, ok_exc, ok_bind, okO_some, okO_none, ok_okIf, ok_ite, w_slot, w_cst, w_glo, w_bin, w_cmp, w_neg, w_chain, w_bop, w_B1, w_B2, w_not, w_ite, w_L0, w_L1, w_call, w_bcall, w_isin, w_bmeth, w_meth, w_make, w_attr, w_own, w_dist, w_D0, w_D1, w_dsp, w_idx, w_O0, w_O1, w_sli, w_tup, w_lst, w_comp, ok_mkF, ok_mkT, w_ov, w_rng1, s_nx, s_ret, s_bad, s_exc, s_run, s_nil, s_cons, s_exp, s_rete, s_retN, s_pas, s_brk, s_cnt, s_set, s_unp, s_par, s_cond, s_sub, s_fld, s_aug, s_raise, s_loop, s_body, bindT_one, bindT_tup, setN_nil, setN_cons, cxt_glob, cxt_cl, endQ_self, endE_self, frz_bl, frz_int, frz_str, frz_non, tr_bl, ii_1, ii_2, l07, l17, l27, l37, l47, l57, l67, ii_l1, ii_l2, ii_t1, ii_t2, pl_str, pl_int, pl_bl, pl_non, pl_tup, pl_lst, pl_nil, pl_cons, kD_str, kD_int, kD_bl, kD_non, kD_tup, kD_lst, ki_01, ki_02, ki_03, ki_04, ki_05, ki_06, ki_11, ki_12, ki_13, ki_14, ki_15, ki_16, ki_21, ki_22, ki_23, ki_24, ki_25, ki_26, ki_31, ki_32, ki_33, ki_34, ki_35, ki_36, ki_41, ki_42, ki_43, ki_44, ki_45, ki_46, ki_51, ki_52, ki_53, ki_54, ki_55, ki_56, ki_61, ki_62, ki_63, ki_64, ki_65, ki_66, isBl_bl, negD_int, intD_int, cmp_lt, cmp_le, cmp_gt, cmp_ge, cmp_eqi, cmp_nei, cmp_eqs, cmp_is, cmp_isn, flat_strs, mem_strs, cmp_inT, cmp_inL, cmp_ninT, cmp_inS, bin_add, bin_sub, bin_adds, bin_addt, bin_addl, bi_lenS, bi_lenT, bi_lenL, bi_tupL, bi_tupT, bi_int, bi_all, src_len, it_s, it_t, it_l, sl_one, sl_tup, wi_nil, wi_cons, w_why, idx0, idx1, idxl0, seq_t, seq_l, texts_map, bind_sm, sli1, bi_max, sliS, sliL, cmp_pnil, bin_p29, le_line0, le_line1, le_line2, le_line3, le_line4, cmp_inil, turn_w, List.length_cons, List.length_nil, List.length_map, List.getElem?_cons_succ, List.getElem?_cons_zero, List.set_cons_zero, List.set_cons_succ, List.map_cons, List.map_nil, List.replicate_succ, List.replicate_zero, List.nil_append, List.cons_append, List.append_nil, List.tail_cons, List.headD_cons, List.head?_cons, Nat.reduceSub, Nat.reduceAdd, reduceIte, Bool.not_true, Bool.not_false, true_implies, forall_const, and_true, true_and, implies_true, reduceCtorEq, ne_eq, not_true_eq_false, not_false_eq_true, false_implies, and_self, if_true, if_false, Bool.false_eq_true, Bool.true_eq_false, okO_none, Option.some.injEq, Bool.or_true, Bool.true_or, Bool.false_or, Bool.or_false, Bool.and_true, Bool.true_and, Bool.and_false, Bool.false_and, decide_true, decide_false, eq_self])
local macro_rules
  | `(tactic| decreasing_trivial_pre_omega) => `(tactic| simp only [ok_ok, ok_bad, ok_exc, ok_bind, okO_some, okO_none, ok_okIf, ok_ite, w_slot, w_cst, w_glo, w_bin, w_cmp, w_neg, w_chain, w_bop, w_B1, w_B2, w_not, w_ite, w_L0, w_L1, w_call, w_bcall, w_isin, w_bmeth, w_meth, w_make, w_attr, w_own, w_dist, w_D0, w_D1, w_dsp, w_idx, w_O0, w_O1, w_sli, w_tup, w_lst, w_comp, ok_mkF, ok_mkT, w_ov, w_rng1, s_nx, s_ret, s_bad, s_exc, s_run, s_nil, s_cons, s_exp, s_rete, s_retN, s_pas, s_brk, s_cnt, s_set, s_unp, s_par, s_cond, s_sub, s_fld, s_aug, s_raise, s_loop, s_body, bindT_one, bindT_tup, setN_nil, setN_cons, cxt_glob, cxt_cl, endQ_self, endE_self, frz_bl, frz_int, frz_str, frz_non, tr_bl, ii_1, ii_2, l07, l17, l27, l37, l47, l57, l67, ii_l1, ii_l2, ii_t1, ii_t2, pl_str, pl_int, pl_bl, pl_non, pl_tup, pl_lst, pl_nil, pl_cons, kD_str, kD_int, kD_bl, kD_non, kD_tup, kD_lst, ki_01, ki_02, ki_03, ki_04, ki_05, ki_06, ki_11, ki_12, ki_13, ki_14, ki_15, ki_16, ki_21, ki_22, ki_23, ki_24, ki_25, ki_26, ki_31, ki_32, ki_33, ki_34, ki_35, ki_36, ki_41, ki_42, ki_43, ki_44, ki_45, ki_46, ki_51, ki_52, ki_53, ki_54, ki_55, ki_56, ki_61, ki_62, ki_63, ki_64, ki_65, ki_66, isBl_bl, negD_int, intD_int, cmp_lt, cmp_le, cmp_gt, cmp_ge, cmp_eqi, cmp_nei, cmp_eqs, cmp_is, cmp_isn, flat_strs, mem_strs, cmp_inT, cmp_inL, cmp_ninT, cmp_inS, bin_add, bin_sub, bin_adds, bin_addt, bin_addl, bi_lenS, bi_lenT, bi_lenL, bi_tupL, bi_tupT, bi_int, bi_all, src_len, it_s, it_t, it_l, sl_one, sl_tup, wi_nil, wi_cons, w_why, idx0, idx1, idxl0, seq_t, seq_l, texts_map, bind_sm, sli1, bi_max, sliS, sliL, cmp_pnil, bin_p29, le_line0, le_line1, le_line2, le_line3, le_line4, cmp_inil, turn_w, List.length_cons, List.length_nil, List.length_map, List.getElem?_cons_succ, List.getElem?_cons_zero, List.set_cons_zero, List.set_cons_succ, List.map_cons, List.map_nil, List.replicate_succ, List.replicate_zero, List.nil_append, List.cons_append, List.append_nil, List.tail_cons, List.headD_cons, List.head?_cons, Nat.reduceSub, Nat.reduceAdd, reduceIte, Bool.not_true, Bool.not_false, true_implies, forall_const, and_true, true_and, implies_true, reduceCtorEq, ne_eq, not_true_eq_false, not_false_eq_true, false_implies, and_self, if_true, if_false, Bool.false_eq_true, Bool.true_eq_false, okO_none, Option.some.injEq, Bool.or_true, Bool.true_or, Bool.false_or, Bool.or_false, Bool.and_true, Bool.true_and, Bool.and_false, Bool.false_and, decide_true, decide_false, eq_self, *])
theorem path_w {d : D} {n0 : Nat} (h34 : Pg.fd 34 = some Fd.f__law_path) (hP : Pg.fd 24 = some Fd.f__law_pull) (h : Bag S b) (ht : isTr ss ms n0 d = true) (hm : ∀ q ∈ ms, q.2 ≤ 1000)
    (K : ∀ (p : List Nat) S', p.length ≤ 4 → (atP d p).isSome = true → Drew S S' b → Q (.lst (intsD p)) S') : Ok (callX (cxt Pg (k + 2)) rs false 34 [.ref b, d] [] [] S) E Q := by
  refine call_w (vs := [.ref b, d]) h34 rfl ?_
  simp only [Fd.f__law_path]
  decreasing_trivial
  refine ⟨⟨by decide, by decide⟩, loop_w (l := rangeD 0 4) (fun i F S' => ∃ p y x4 T n, F = [some (.ref b), some d, some (.ref S.length), some y, x4] ∧ S' = T ++ [.lst (intsD p)] ∧ Drew S T b ∧ p.length ≤ i ∧ atP d p = some y ∧ isTr ss ms n y = true) rfl ⟨[], d, none, S, n0, rfl, rfl, .refl h, Nat.le_refl _, atP_nil, ht⟩ (fun i x F S' hd ⟨p, y, x4, T, n, e1, e2, dT, hl, hy, hty⟩ => ?_) (fun F S' ⟨p, y, x4, T, n, e1, e2, dT, hl, hy, hty⟩ => ?_)⟩
  · subst e1 e2
    obtain ⟨n1, w, a, r, rfl, rfl, hc⟩ := isTr_inv hty
    rcases hc with ⟨_, rfl, j, rfl, _⟩ | ⟨hs, c, hc1, hc2, hc3⟩
    · decreasing_trivial
      exact ⟨p, _, _, T, _, rfl, rfl, dT, by omega, hy, hty⟩
    · have fa := shT_plain (isTr_sh hm (hc3 a List.mem_cons_self))
      have pa := fa.1
      have e3 : kindIn (kD a) 2 = false := by
        have := fa.2.2.2.2
        cases a with
        | bl b => exact (fa.2.2.2.1 b rfl).elim
        | int i => cases this
        | _ => rfl
      decreasing_trivial_pre_omega
      have hlen : T.length = S.length := dT.len
      refine pull_w (m := 3) hP (bag_app dT.1) (by decide) (by decide) fun v S1 v0 v1 d1 => ?_
      obtain ⟨T1, rfl, dT1⟩ := drew_app dT.1 d1
      decreasing_trivial
      refine ⟨fun hv => ?_, fun hv => ⟨p, _, _, T1, _, rfl, rfl, dT.trans dT1, by omega, hy, hty⟩⟩
      have hlen1 : T1.length = S.length := by rw [dT1.len, hlen]
      refine ⟨by simp [bmOk, ← hlen1], ?_⟩
      have hr : r.length ≤ 1000 := by
        obtain ⟨q, q1, q2, q3⟩ := arOf_mem hc1
        have := hm q q1
        omega
      refine pull_w hP (bag_app dT1.1) (by omega) (by omega) fun u S2 u0 u1 d2 => ?_
      obtain ⟨T2, rfl, dT2⟩ := drew_app dT1.1 d2
      have hlen2 : T2.length = S.length := by rw [dT2.len, hlen1]
      obtain ⟨q, rfl⟩ : ∃ q : Nat, u = q := ⟨u.toNat, by omega⟩
      have hi4 : i < 4 := (List.getElem?_eq_some_iff.mp hd).1
      have hq : q < (a :: r).length := by simp only [List.length_cons]; omega
      have hz : (D.str w :: a :: r)[q + 1]? = some (a :: r)[q] := by rw [List.getElem?_cons_succ, List.getElem?_eq_getElem hq]
      have tz := hc3 _ (List.getElem_mem hq)
      have fz := shT_plain (isTr_sh hm tz)
      rw [bin_add, ok_ok, show (1 : Int) + (q : Int) = ((q + 1 : Nat) : Int) by omega, app_l hlen2 (by omega), ok_ok, last_l hlen2, ok_ok, idx_t hz, ok_ok]
      exact ⟨p ++ [q + 1], _, _, T2, _, rfl, rfl, (dT.trans dT1).trans dT2, by rw [List.length_append]; simp only [List.length_singleton]; omega, atP_snoc hy rfl (by omega) hz fz.2.2.2.2, tz⟩
  · subst e1 e2
    have hlen : T.length = S.length := dT.len
    have hl2 : ((T ++ [Cell.lst (intsD p)]).take S.length) = T := by rw [← hlen, List.take_left]
    decreasing_trivial
    refine ⟨.lst (intsD p), frz_ll hlen, ?_⟩
    rw [hl2]
    exact K p T (by rw [rangeD_len] at hl; exact hl) (by rw [hy]; rfl) dT
end
end OM
set_option Elab.async false
set_option linter.all false
set_option maxRecDepth 100000
set_option maxHeartbeats 0
namespace K05
open OM
abbrev i_law : Nat := 37
abbrev i__law_bag : Nat := 23
abbrev i__law_spec : Nat := 30
abbrev i__law_sig : Nat := 31
abbrev i__law_tree : Nat := 32
abbrev i__law_pull : Nat := 24
abbrev i__law_same : Nat := 26
abbrev i_is_tree : Nat := 8
abbrev i_depth_of : Nat := 11
abbrev i_check_tree : Nat := 9
abbrev i__law_depth : Nat := 35
abbrev i__law_with : Nat := 33
abbrev i__law_path : Nat := 34
abbrev i__law_of : Nat := 25
abbrev i__law_deep_trees_so : Nat := 36
abbrev i__law_names : Nat := 29
abbrev i_Signature___init__ : Nat := 13
abbrev i_Signature_sorts : Nat := 14
abbrev i_is_whole : Nat := 5
abbrev i_Signature___contains__ : Nat := 20
abbrev i_Signature_arity : Nat := 17
abbrev i_is_name : Nat := 10
abbrev i_are_words : Nat := 7
abbrev i_is_pair : Nat := 12
abbrev i_Signature_words : Nat := 18
abbrev i_is_word : Nat := 6
abbrev c_MarkError : Nat := 4
abbrev c_Missing : Nat := 5
abbrev c_InvalidSignature : Nat := 2
abbrev c_InvalidTree : Nat := 1
abbrev c_InvalidText : Nat := 6
abbrev c_UnknownWord : Nat := 3
abbrev c_NothingLeft : Nat := 7
abbrev c_Signature : Nat := 0
abbrev fdl : List (Nat × FD) := [(37, Fd.f_law), (23, Fd.f__law_bag), (30, Fd.f__law_spec), (31, Fd.f__law_sig), (32, Fd.f__law_tree), (24, Fd.f__law_pull), (26, Fd.f__law_same), (8, Fd.f_is_tree), (11, Fd.f_depth_of), (9, Fd.f_check_tree), (35, Fd.f__law_depth), (33, Fd.f__law_with), (34, Fd.f__law_path), (25, Fd.f__law_of), (36, Fd.f__law_deep_trees_so), (29, Fd.f__law_names), (13, Fd.f_Signature___init__), (14, Fd.f_Signature_sorts), (5, Fd.f_is_whole), (20, Fd.f_Signature___contains__), (17, Fd.f_Signature_arity), (10, Fd.f_is_name), (7, Fd.f_are_words), (12, Fd.f_is_pair), (18, Fd.f_Signature_words), (6, Fd.f_is_word)]
abbrev gl : List (Nat × D) := [(0, .int 3), (1, .int 5), (2, .int 8), (3, .tup [.str [97, 108, 108], .str [110, 111, 110, 101], .str [115, 111, 109, 101], .str [110, 111, 116], .str [97, 110, 100], .str [111, 114]])]
abbrev cs : List (Nat × CC) := [(0, ⟨[(13, 17), (24, 18), (12, 20)], [(11, 14)], [], [21, 22], some 13, []⟩)]
abbrev xl : List (Nat × Nat × List Nat × Option Nat) := [(1, 29, [73, 110, 118, 97, 108, 105, 100, 84, 114, 101, 101], some 2), (2, 29, [73, 110, 118, 97, 108, 105, 100, 83, 105, 103, 110, 97, 116, 117, 114, 101], some 34), (3, 29, [85, 110, 107, 110, 111, 119, 110, 87, 111, 114, 100], some 23)]
abbrev cl : Clt := cltE cs xl
abbrev Pg : Prog := ⟨fun f => fdl.lookup f, fun g => gl.lookup g, cl, whyE xl 29 Fd.f__law_field⟩
end K05
set_option Elab.async false
set_option linter.all false
set_option maxRecDepth 100000
set_option maxHeartbeats 4000000
namespace K05
open OM
theorem glo : Glo Pg := ⟨rfl, rfl, rfl, rfl⟩
theorem sg : Sg Pg := ⟨rfl, rfl, rfl, rfl, rfl, rfl, rfl, rfl, rfl, rfl, rfl⟩
abbrev tx : List Nat := [73, 110, 118, 97, 108, 105, 100, 84, 114, 101, 101]
theorem why_c {v : D} {rs : List Nat} {S : Sto} (hv : v.plain = true) : Pg.why (.exc 1 [2, 29] [v, .str tx]) rs S = .ok (.tup [.str tx, v]) S := by
  cases v with
  | non => rfl
  | bl b => rfl
  | int i => rfl
  | str x => rfl
  | tup xs => rfl
  | lst xs => rfl
  | _ => cases hv
def chain : Nat → D
  | 0 => .tup [.str [118], .int 0]
  | n + 1 => .tup [.str [102], chain n]
theorem mk13 {k : Nat} {rs : List Nat} {K : (List D → List Nat → List D → Sto → Out D) → Prop} : makeX (cxt Pg k) rs false 0 K = K (mkC (cxt Pg k) rs false 0 13) := by
  unfold makeX
  show okO (some 13) _ = _
  rw [okO_some]
theorem sig_q {k : Nat} {rs : List Nat} {S : Sto} {ss : List (List Nat)} {ms : List (List Nat × Int)} (a1 : 1 ≤ ss.length) (a2 : ss.length ≤ 3) (a3 : ms.length ≤ 5) (a4 : goodWs (ss ++ ms.map (·.1)) = true) (a5 : goodWs ss = true) (a6 : ∀ q ∈ ms, okWord q.1 = true ∧ 1 ≤ q.2 ∧ q.2 ≤ 2) : mkC (cxt Pg (k + 4)) rs false 0 13 [.lst (ss.map D.str), .lst (ms.map pairD)] [] [] S = .ok (sigD ss ms) S :=
  sig_make rfl rfl rfl rfl rfl glo rfl rfl a1 a2 a3 a4 a5 a6 [] [] rfl
theorem tree_q {k : Nat} {rs : List Nat} {S : Sto} {ss : List (List Nat)} {ms : List (List Nat × Int)} {d : D} {b : Bool} (l1 : ss.length ≤ 100) (l2 : ms.length ≤ 100) (hk : 43 ≤ k) (h1 : d.plain = true) (h2 : d.fit = true) (h3 : isTr ss ms 40 d = b) : callX (cxt Pg k) rs false 8 [sigD ss ms, d] [] [] S = .ok (.bl b) S := by
  rw [← h3]
  exact tree_c sg rfl rfl l1 l2 40 k d hk h1 h2 rs S _ _ _ rfl
abbrev s1 : List (List Nat) := [[118]]
abbrev m1 : List (List Nat × Int) := [([102], 1)]
abbrev m2 : List (List Nat × Int) := [([102], 1), ([103], 2)]
def c39 : D := chain 39
def c38 : D := chain 38
theorem c39_eq : c39 = .tup [.str [102], c38] := rfl
abbrev v0 : D := .tup [.str [118], .int 0]
abbrev g2 (a b : D) : D := .tup [.str [103], a, b]
theorem pl39 : c39.plain = true := by decide +kernel
theorem pl38 : c38.plain = true := by decide +kernel
theorem fi39 : c39.fit = true := by decide +kernel
theorem fi38 : c38.fit = true := by decide +kernel
theorem t1 : isTr s1 m1 40 c39 = true := by decide +kernel
theorem t2 : isTr s1 m1 40 (.tup [.str [102], c39]) = false := by decide +kernel
theorem t3 : isTr s1 m2 40 (g2 v0 c38) = true := by decide +kernel
theorem t4 : isTr s1 m2 40 (g2 c38 v0) = true := by decide +kernel
theorem t5 : isTr s1 m2 40 (g2 v0 c39) = false := by decide +kernel
theorem t6 : isTr s1 m2 40 (g2 c39 v0) = false := by decide +kernel
theorem t7 : isTr s1 m2 40 (g2 v0 (g2 v0 c38)) = false := by decide +kernel
theorem t8 : shT 41 c39 = true := by decide +kernel
theorem t9 : dpT c39 = 40 := by decide +kernel
theorem same_q {k : Nat} {rs : List Nat} {S : Sto} {f d : D} {b : Bool} (pf : f.plain = true) (pd : d.plain = true) (hw : d.fit = true) (hk : D.dep d ≤ k) (hf : D.dep f ≤ 64) (hd : D.dep d ≤ 64) (hb : sameD f d = b) : callX (cxt Pg (k + 1)) rs false 26 [f, d] [] [] S = .ok (.bl b) S := by
  have e : callX (cxt Pg (k + 1)) rs false 26 [f, d] [] [] S = endCall S (callD Pg (k + 1) 26 [f, d] (S.length :: rs) S) := by
    unfold callX
    rw [cxt_pars (G := Fd.f__law_same) rfl]
    rfl
  rw [e, same_ok (Sm := 26) (po := [8, 9]) rfl rfl (k + 1) f d pf pd hw (by omega) hf hd, hb]
  exact end_ok rfl rfl
mutual
theorem sameD_refl : ∀ {d : D}, d.plain = true → sameD d d = true
  | .non, _ => rfl
  | .bl b, _ => by cases b <;> rfl
  | .int i, _ => by simp [sameD, isNon, kD, kindIn, D.eqv]
  | .str x, _ => by simp [sameD, isNon, kD, kindIn, D.eqv]
  | .tup xs, h => by
    simp only [D.plain] at h
    simp only [sameD, sameL_refl h, decide_true, Bool.and_self]
  | .lst xs, h => by
    simp only [D.plain] at h
    simp only [sameD, sameL_refl h, decide_true, Bool.and_self]
theorem sameL_refl : ∀ {ds : List D}, plainL ds = true → sameL ds ds = true
  | [], _ => rfl
  | d :: ds, h => by
    simp only [plainL, Bool.and_eq_true] at h
    simp only [sameL, sameD_refl h.1, sameL_refl h.2, Bool.and_self]
end
/-- what stands where no tree is -/
abbrev oddL (s : List Nat) : List D := [.non, .int 3, .str s, .tup [], .tup [.str s], .tup [.str s, .int (0 - 1)], .tup [.str s, .bl true], .tup [.str s, .str [48]], .lst [.str s, .int 0], .tup [.str s, .int 0, .int 0], .tup [.str [90, 122], .int 0], .tup [.str s, .non], .tup [.int 3, .int 0], .tup [.str s, .tup [.str s, .int 0]]]
abbrev oddM (s w : List Nat) (m : Int) : List D := [.tup [.str w], .tup [.str w, .int 0], .tup [.str w, .lst [.str s, .int 0]], .tup ([.str w] ++ (List.replicate (3 - m).toNat [D.tup [.str s, .int 0]]).flatten), .tup ([.str w] ++ [.tup [.str s, .int 0], .tup [.str s, .int 0], .tup [.str s, .int 0]])]
structure Odd (ss : List (List Nat)) (ms : List (List Nat × Int)) (d : D) : Prop where
  pl : d.plain = true
  fi : d.fit = true
  dp : D.dep d ≤ 3
  no : ∀ n, isTr ss ms n d = false
theorem zz {ss : List (List Nat)} {ms : List (List Nat × Int)} (sp : Spec ss ms) : ss.contains [90, 122] = false ∧ arOf [90, 122] ms = none := by
  have k : ∀ w, okWord w = true → w ≠ [90, 122] := fun w h e => by
    rw [e] at h
    exact absurd h (by decide)
  have g := sp.ga
  unfold goodWs at g
  rw [Bool.and_eq_true, List.all_eq_true] at g
  constructor
  · rw [Bool.eq_false_iff]
    intro z
    exact k _ (g.1 _ (List.mem_append_left _ (List.contains_iff_mem.mp z))) rfl
  · cases e : arOf [90, 122] ms with
    | none => rfl
    | some n =>
      obtain ⟨q, q1, q2, _⟩ := arOf_mem e
      exact absurd q2 (k _ (sp.ar q q1).1)
theorem odd_l {ss : List (List Nat)} {ms : List (List Nat × Int)} {s : List Nat} (sp : Spec ss ms) (hs : ss.contains s = true) : ∀ d ∈ oddL s, Odd ss ms d := by
  intro d hd
  obtain ⟨z1, z2⟩ := zz sp
  simp only [List.mem_cons, List.not_mem_nil, or_false] at hd
  rcases hd with rfl | rfl | rfl | rfl | rfl | rfl | rfl | rfl | rfl | rfl | rfl | rfl | rfl | rfl <;>
  refine ⟨rfl, by simp [D.fit, fitL, line], by simp [D.dep, depL], fun n => ?_⟩ <;> cases n <;> simp only [isTr, hs, z1, z2, natD, if_true, if_false, Bool.false_eq_true] <;> rfl
theorem odd_m {ss : List (List Nat)} {ms : List (List Nat × Int)} {s w : List Nat} {m : Int} (sp : Spec ss ms) (hw : ss.contains w = false) (ha : arOf w ms = some m) (h1 : 1 ≤ m) (h2 : m ≤ 2) : ∀ d ∈ oddM s w m, Odd ss ms d := by
  intro d hd
  have e0 : ∀ n i, isTr ss ms n (.int i) = false := fun n i => by cases n <;> rfl
  have e1 : ∀ n x, isTr ss ms n (.lst x) = false := fun n i => by cases n <;> rfl
  obtain rfl | rfl : m = 1 ∨ m = 2 := by omega
  all_goals
    simp only [List.mem_cons, List.not_mem_nil, or_false] at hd
    rcases hd with rfl | rfl | rfl | rfl | rfl <;>
    refine ⟨rfl, by simp [D.fit, fitL, line, List.replicate], by simp [D.dep, depL, List.replicate], fun n => ?_⟩ <;> cases n <;> first | rfl | (simp only [isTr, hw, ha, if_false, Bool.false_eq_true, List.cons_append, List.nil_append]; simp [e0, e1, List.replicate]; done) | (simp [List.replicate]; simp only [isTr, hw, ha, if_false, Bool.false_eq_true]; simp)
local macro_rules
  | `(tactic| decreasing_trivial) => `(tactic| simp only [ok_ok, ok_bad, ok_exc, ok_bind, okO_some, okO_none, ok_okIf, ok_ite, w_slot, w_cst, w_glo, w_bin, w_cmp, w_neg, w_chain, w_bop, w_B1, w_B2, w_not, w_ite, w_L0, w_L1, w_call, w_bcall, w_isin, w_bmeth, w_meth, w_make, w_attr, w_own, w_dist, w_D0, w_D1, w_dsp, w_idx, w_O0, w_O1, w_sli, w_tup, w_lst, w_comp, ok_mkF, ok_mkT, w_ov, w_rng1, s_nx, s_ret, s_bad, s_exc, s_run, s_nil, s_cons, s_exp, s_rete, s_retN, s_pas, s_brk, s_cnt, s_set, s_unp, s_par, s_cond, s_sub, s_fld, s_aug, s_raise, s_loop, s_body, bindT_one, bindT_tup, setN_nil, setN_cons, cxt_glob, cxt_cl, endQ_self, endE_self, frz_bl, frz_int, frz_str, frz_non, tr_bl, ii_1, ii_2, l07, l17, l27, l37, l47, l57, l67, ii_l1, ii_l2, ii_t1, ii_t2, pl_str, pl_int, pl_bl, pl_non, pl_tup, pl_lst, pl_nil, pl_cons, kD_str, kD_int, kD_bl, kD_non, kD_tup, kD_lst, ki_01, ki_02, ki_03, ki_04, ki_05, ki_06, ki_11, ki_12, ki_13, ki_14, ki_15, ki_16, ki_21, ki_22, ki_23, ki_24, ki_25, ki_26, ki_31, ki_32, ki_33, ki_34, ki_35, ki_36, ki_41, ki_42, ki_43, ki_44, ki_45, ki_46, ki_51, ki_52, ki_53, ki_54, ki_55, ki_56, ki_61, ki_62, ki_63, ki_64, ki_65, ki_66, isBl_bl, negD_int, intD_int, cmp_lt, cmp_le, cmp_gt, cmp_ge, cmp_eqi, cmp_nei, cmp_eqs, cmp_is, cmp_isn, flat_strs, mem_strs, cmp_inT, cmp_inL, cmp_ninT, cmp_inS, bin_add, bin_sub, bin_adds, bin_addt, bin_addl, bi_lenS, bi_lenT, bi_lenL, bi_tupL, bi_tupT, bi_int, bi_all, src_len, it_s, it_t, it_l, sl_one, sl_tup, wi_nil, wi_cons, w_why, idx0, idx1, idxl0, seq_t, seq_l, texts_map, bind_sm, sli1, bi_max, sliS, sliL, cmp_pnil, bin_p29, le_line0, le_line1, le_line2, le_line3, le_line4, cmp_inil, turn_w, List.length_cons, List.length_nil, List.length_map, List.getElem?_cons_succ, List.getElem?_cons_zero, List.set_cons_zero, List.set_cons_succ, List.map_cons, List.map_nil, List.replicate_succ, List.replicate_zero, List.nil_append, List.cons_append, List.append_nil, List.tail_cons, List.headD_cons, List.head?_cons, Nat.reduceSub, Nat.reduceAdd, reduceIte, Bool.not_true, Bool.not_false, true_implies, forall_const, and_true, true_and, implies_true, reduceCtorEq, ne_eq, not_true_eq_false, not_false_eq_true, false_implies, and_self, if_true, if_false, Bool.false_eq_true, Bool.true_eq_false, okO_none, Option.some.injEq, Bool.or_true, Bool.true_or, Bool.false_or, Bool.or_false, Bool.and_true, Bool.true_and, Bool.and_false, Bool.false_and, decide_true, decide_false, eq_self])
local macro_rules
  | `(tactic| decreasing_trivial_pre_omega) => `(tactic| simp only [ok_ok, ok_bad, ok_exc, ok_bind, okO_some, okO_none, ok_okIf, ok_ite, w_slot, w_cst, w_glo, w_bin, w_cmp, w_neg, w_chain, w_bop, w_B1, w_B2, w_not, w_ite, w_L0, w_L1, w_call, w_bcall, w_isin, w_bmeth, w_meth, w_make, w_attr, w_own, w_dist, w_D0, w_D1, w_dsp, w_idx, w_O0, w_O1, w_sli, w_tup, w_lst, w_comp, ok_mkF, ok_mkT, w_ov, w_rng1, s_nx, s_ret, s_bad, s_exc, s_run, s_nil, s_cons, s_exp, s_rete, s_retN, s_pas, s_brk, s_cnt, s_set, s_unp, s_par, s_cond, s_sub, s_fld, s_aug, s_raise, s_loop, s_body, bindT_one, bindT_tup, setN_nil, setN_cons, cxt_glob, cxt_cl, endQ_self, endE_self, frz_bl, frz_int, frz_str, frz_non, tr_bl, ii_1, ii_2, l07, l17, l27, l37, l47, l57, l67, ii_l1, ii_l2, ii_t1, ii_t2, pl_str, pl_int, pl_bl, pl_non, pl_tup, pl_lst, pl_nil, pl_cons, kD_str, kD_int, kD_bl, kD_non, kD_tup, kD_lst, ki_01, ki_02, ki_03, ki_04, ki_05, ki_06, ki_11, ki_12, ki_13, ki_14, ki_15, ki_16, ki_21, ki_22, ki_23, ki_24, ki_25, ki_26, ki_31, ki_32, ki_33, ki_34, ki_35, ki_36, ki_41, ki_42, ki_43, ki_44, ki_45, ki_46, ki_51, ki_52, ki_53, ki_54, ki_55, ki_56, ki_61, ki_62, ki_63, ki_64, ki_65, ki_66, isBl_bl, negD_int, intD_int, cmp_lt, cmp_le, cmp_gt, cmp_ge, cmp_eqi, cmp_nei, cmp_eqs, cmp_is, cmp_isn, flat_strs, mem_strs, cmp_inT, cmp_inL, cmp_ninT, cmp_inS, bin_add, bin_sub, bin_adds, bin_addt, bin_addl, bi_lenS, bi_lenT, bi_lenL, bi_tupL, bi_tupT, bi_int, bi_all, src_len, it_s, it_t, it_l, sl_one, sl_tup, wi_nil, wi_cons, w_why, idx0, idx1, idxl0, seq_t, seq_l, texts_map, bind_sm, sli1, bi_max, sliS, sliL, cmp_pnil, bin_p29, le_line0, le_line1, le_line2, le_line3, le_line4, cmp_inil, turn_w, List.length_cons, List.length_nil, List.length_map, List.getElem?_cons_succ, List.getElem?_cons_zero, List.set_cons_zero, List.set_cons_succ, List.map_cons, List.map_nil, List.replicate_succ, List.replicate_zero, List.nil_append, List.cons_append, List.append_nil, List.tail_cons, List.headD_cons, List.head?_cons, Nat.reduceSub, Nat.reduceAdd, reduceIte, Bool.not_true, Bool.not_false, true_implies, forall_const, and_true, true_and, implies_true, reduceCtorEq, ne_eq, not_true_eq_false, not_false_eq_true, false_implies, and_self, if_true, if_false, Bool.false_eq_true, Bool.true_eq_false, okO_none, Option.some.injEq, Bool.or_true, Bool.true_or, Bool.false_or, Bool.or_false, Bool.and_true, Bool.true_and, Bool.and_false, Bool.false_and, decide_true, decide_false, eq_self, *])
theorem chain_w {k : Nat} {rs : List Nat} {S : Sto} {G : Go} {N : PrF} {F : Fr} (hF : F = [some v0, none, none, none, none, none]) (K : ∀ x1, N [some c39, x1, none, none, none, none] S) : OkS (turnsS (bodyF (cxt Pg k) rs (.one 1) [.set 0 (.tup [.cst (.str [102]), .slot 0])]) (.items (rangeD 0 39)) 39 0 F S) G N := by
  refine loop_w (l := rangeD 0 39) (fun i F S' => S' = S ∧ ∃ x1, F = [some (chain i), x1, none, none, none, none]) rfl ⟨rfl, none, hF⟩ (fun i d F S' hd ⟨e1, x1, e2⟩ => ?_) (fun F S' ⟨e1, x1, e2⟩ => ?_)
  · subst e1 e2
    decreasing_trivial
    exact ⟨_, rfl⟩
  · subst e1 e2
    exact K x1
theorem deep_k (c : Cell) : callX (cxt Pg 54) [] false 36 [] [] [] [c] = .ok (.bl true) [c] := by
  kernel_rfl
theorem sigl_q {k : Nat} {rs : List Nat} {S : Sto} {ss : List (List Nat)} {ms : List (List Nat × Int)} {qs : List (List Nat)} (sp : Spec ss ms) : callX (cxt Pg (k + 5)) rs false 31 [specD ss ms qs] [] [] S = .ok (sigD ss ms) S := by
  refine Ok.eq (call_w (vs := [specD ss ms qs]) (G := Fd.f__law_sig) rfl rfl ?_)
  have q := fun r S => sig_q (k := k) (rs := r) (S := S) (ss := ss) (ms := ms) sp.s1 (by have := sp.s2; omega) (by have := sp.m2; omega) sp.ga sp.gs sp.ar
  have e1 : ∀ S, vIdx (.tup [.lst (ss.map D.str), .lst (ms.map pairD), .lst (qs.map D.str)]) (.int 0) S = .ok (.lst (ss.map D.str)) S := fun S => idx0
  have e2 : ∀ S, vIdx (.tup [.lst (ss.map D.str), .lst (ms.map pairD), .lst (qs.map D.str)]) (.int 1) S = .ok (.lst (ms.map pairD)) S := fun S => idx1
  have e3 : (sigD ss ms).lo S.length = true := by simp only [sigD, D.lo, loL, lo_strs, lo_pairs, Bool.and_self]
  have e4 : frz1 S S.length (sigD ss ms) = some (sigD ss ms) := by
    unfold sigD frz1 at *
    simp only [e3, if_true]
  simp only [Fd.f__law_sig, specD]
  decreasing_trivial_pre_omega
  rw [mk13, q]
  decreasing_trivial_pre_omega
theorem dep_tr {ss : List (List Nat)} {ms : List (List Nat × Int)} {n : Nat} {d : D} (hm : ∀ q ∈ ms, q.2 ≤ 1000) (h : isTr ss ms n d = true) : d.plain = true ∧ d.fit = true ∧ D.dep d ≤ n := by
  obtain ⟨a, b, c, _⟩ := shT_plain (isTr_sh hm h)
  exact ⟨a, b, c⟩
theorem law_end {c : Cell} : callX (cxt Pg 54) [] false 36 [] [] [] [c] = .ok (.bl true) [c] := deep_k c
def turnB : List CS := match Fd.f_law.body with
  | [_, .loop _ _ b, _] => b
  | _ => []
def tl (i : Nat) : List CS := turnB.drop i
/-- a turn of the law -/
theorem turn {ns : List Int} {x2 x3 x4 x5 x6 x7 x8 x9 x10 : Option D} {S : Sto} {G : Go} {N : PrF} (h : Bag S 0) (h1 : S.length = 1)
    (K : ∀ y3 y4 y5 y6 y7 y8 y9 y10 S', Bag S' 0 → S'.length = 1 → N [some (.frz ns), some (.ref 0), x2, y3, y4, y5, y6, y7, y8, y9, y10] S') :
    OkS (evSs (cxt Pg 54) [] (tl 0) [some (.frz ns), some (.ref 0), x2, x3, x4, x5, x6, x7, x8, x9, x10] S) G N := by
  rw [show tl 0 = _ :: tl 1 from rfl, s_cons]
  decreasing_trivial
  refine spec_w (k := 50) (mo := 1) rfl rfl rfl rfl h (by decide) (by decide) fun ss ms qs S1 sp d1 => ?_
  have hm : ∀ q ∈ ms, q.2 ≤ 1000 := fun q hq => by have := sp.ar q hq; omega
  have q1 := fun S => sigl_q (k := 49) (rs := []) (S := S) (qs := qs) sp
  rw [show tl 1 = _ :: tl 2 from rfl, s_cons]
  decreasing_trivial_pre_omega
  refine pull_w (k := 53) (m := 4) rfl d1.1 (by decide) (by decide) fun r S2 r0 r4 d2 => ?_
  obtain ⟨n, rfl⟩ : ∃ n : Nat, r = n := ⟨r.toNat, by omega⟩
  decreasing_trivial
  rw [show (1 : Int) + (n : Int) = ((n + 1 : Nat) : Int) by omega]
  refine tree_w (b := 0) (ss := ss) (ms := ms) rfl rfl rfl sp (n + 1) 54 [] S2 _ _ (by omega) d2.1 fun d S3 ht d3 => ?_
  rw [show max (n + 1) 1 = n + 1 by omega] at ht
  obtain ⟨pd, fd, dd⟩ := dep_tr hm ht
  have t40 : isTr ss ms 40 d = true := isTr_mono (by omega) ht
  have ls : ss.length ≤ 100 := by have := sp.s2; omega
  have lm : ms.length ≤ 100 := by have := sp.m2; omega
  have sh := isTr_sh hm ht
  have q2 := fun S => tree_q (k := 54) (rs := []) (S := S) ls lm (by decide) pd fd t40
  have q3 := fun S => depth_c (Pg := Pg) rfl rfl (n + 1) 54 d (by omega) sh [] S [d] [] [] rfl
  have q4 := fun S => lawDepth_c (Pg := Pg) rfl (n + 1) 54 d (by omega) sh [] S
  have q5 := fun S => check_c (k := 54) (rs := []) (S := S) (d := d) sg rfl rfl rfl rfl ls lm pd fd (by decide)
  simp only [t40, if_true] at q5
  have q6 := fun S => same_q (k := 53) (rs := []) (S := S) (f := .lst [.bl true, .int (dpT d), .non]) (d := .lst [.bl true, .int (dpT d), .non]) (b := true) rfl rfl (by simp [D.fit, fitL, line]) (by simp [D.dep, depL]) (by simp [D.dep, depL]) (by simp [D.dep, depL]) (sameD_refl rfl)
  rw [show tl 2 = _ :: tl 3 from rfl, s_cons]
  decreasing_trivial_pre_omega
  obtain ⟨s0, sr, rfl⟩ : ∃ s0 sr, ss = s0 :: sr := by
    have := sp.s1
    cases ss with
    | nil => simp at this
    | cons a b => exact ⟨a, b, rfl⟩
  have hs0 : (s0 :: sr).contains s0 = true := by simp
  have fin : ∀ (os : List D) (y4 y9 y10 : Option D), 0 < os.length → os.length < 1000000 → (∀ l ∈ os, Odd (s0 :: sr) ms l) → OkS (evSs (cxt Pg 54) [] (tl 6) [some (D.frz ns), some (D.ref 0), x2, some (specD (s0 :: sr) ms qs), y4, some (.lst os), x6, some (sigD (s0 :: sr) ms), some d, y9, y10] S3) G N := by
    intro os y4 y9 y10 o1 o2 ho
    rw [show tl 6 = _ :: tl 7 from rfl, s_cons]
    decreasing_trivial
    refine path_w (k := 52) rfl rfl d3.1 ht hm fun p S4 p4 pat d4 => ?_
    refine ofL_w (k := 52) rfl rfl d4.1 o1 o2 (fun l hl => (ho l hl).pl) fun l S5 hl d5 => ?_
    have od := ho l hl
    obtain ⟨f1, f2, f3⟩ := putP_fits ⟨od.pl, od.fi⟩ pd fd pat
    have nt := putP_no od.no ht pat
    have f4 : D.dep (putP d p l) ≤ 7 := by have := od.dp; omega
    rw [show D.lst (intsD p) = .lst (p.map fun (i : Nat) => D.int (i : Int)) from rfl]
    have r1 := with_c (Pg := Pg) (l := l) rfl ⟨od.pl, od.fi⟩ p 54 d [] S5 (by omega) pd fd pat
    decreasing_trivial_pre_omega
    generalize putP d p l = b at f1 f2 f4 nt
    have r2 := fun S => tree_c (Pg := Pg) sg rfl rfl ls lm 40 54 b (by omega) f1 f2 [] S [] [sigD (s0 :: sr) ms, b] [1, 2] rfl
    simp only [nt] at r2
    have r3 := fun S => check_c (k := 54) (rs := []) (S := S) (d := b) sg rfl rfl rfl rfl ls lm f1 f2 (by decide)
    simp only [nt, Bool.false_eq_true, if_false] at r3
    have r4 := fun S => why_c (v := b) (rs := []) (S := S) f1
    have r5 := fun S => same_q (k := 53) (rs := []) (S := S) (f := .lst [.bl false, .tup [.str tx, b]]) (d := .lst [.bl false, .tup [.str tx, b]]) (b := true) (by simp [f1]) (by simp [f1]) (by simp [D.fit, fitL, line, f2]) (by simp only [D.dep, depL]; omega) (by simp only [D.dep, depL]; omega) (by simp only [D.dep, depL]; omega) (sameD_refl (by simp [f1]))
    have r6 : ∀ S, nox ((cxt Pg 54).why (.exc 1 [2, 29] [b, .str tx]) [] S) = .ok (.tup [.str tx, b]) S := fun S => by
      show nox (Pg.why (.exc 1 [2, 29] [b, .str tx]) [] S) = _
      rw [r4]
      rfl
    rw [show tl 7 = [_] from rfl]
    decreasing_trivial_pre_omega
    exact K _ _ _ _ _ _ _ _ S5 d5.1 (by rw [d5.len, d4.len, d3.len, d2.len, d1.len, h1])
  rw [show tl 3 = _ :: tl 4 from rfl, s_cons]
  simp only [specD] at fin ⊢
  decreasing_trivial
  rw [show tl 4 = _ :: tl 5 from rfl, s_cons]
  decreasing_trivial
  refine ⟨by unfold line; omega, ?_⟩
  have o1 := odd_l sp hs0
  have e1 : ∀ S, vCmp .ne (.lst (ms.map pairD)) (.lst []) S = .ok (.bl (!ms.isEmpty)) S := fun S => by
    rw [cmp_ne (by simp only [D.plain, plain_pairs]) rfl (by have := dep_pairs ms; simp only [D.dep]; omega) (by simp [D.dep, depL])]
    cases ms <;> rfl
  rw [show tl 5 = _ :: tl 6 from rfl, s_cons]
  rw [s_cond]
  refine Ok.cut (S1 := S3) (.bl (!ms.isEmpty)) ?_ ?_
  · decreasing_trivial_pre_omega
  cases ms with
  | nil =>
    simp only [List.isEmpty_nil]
    decreasing_trivial
    refine fin (oddL s0) _ _ _ ?_ ?_ o1
    · simp
    · simp
  | cons q mr =>
    have har := sp.ar q List.mem_cons_self
    have nd := List.nodup_append.mp sp.nd
    have c1 : (s0 :: sr).contains q.1 = false := by
      rw [Bool.eq_false_iff]
      intro z
      exact nd.2.2 _ (List.contains_iff_mem.mp z) _ (List.mem_map_of_mem List.mem_cons_self) rfl
    have c2 := arOf_of (q := q) List.mem_cons_self nd.2.1
    have o2 := odd_m (s := s0) sp c1 c2 har.2.1 har.2.2
    have e2 : ∀ S, vBin .mul (.tup [.tup [.str s0, .int 0]]) (.int 3) S = .ok (.tup [.tup [.str s0, .int 0], .tup [.str s0, .int 0], .tup [.str s0, .int 0]]) S := fun S => rfl
    have e3 : ∀ S, vBin .mul (.tup [.tup [.str s0, .int 0]]) (.int (3 - q.2)) S = .ok (.tup (List.replicate (3 - q.2).toNat [D.tup [.str s0, .int 0]]).flatten) S := fun S => by
      obtain h | h : q.2 = 1 ∨ q.2 = 2 := by omega
      · rw [h]; rfl
      · rw [h]; rfl
    have e4 : (List.replicate (3 - q.2).toNat [D.tup [.str s0, .int 0]]).flatten.length ≤ 2 := by
      obtain h | h : q.2 = 1 ∨ q.2 = 2 := by omega
      · rw [h]; exact Nat.le_refl 2
      · rw [h]; exact Nat.le_succ 1
    simp only [List.map_cons, pairD, List.isEmpty_cons]
    decreasing_trivial_pre_omega
    simp only [oddM] at o2
    generalize (List.replicate (3 - q.2).toNat [D.tup [.str s0, .int 0]]).flatten = zs at e4 o2
    refine ⟨decide_eq_true (by unfold line; omega), by unfold line; omega, decide_eq_true (by unfold line; omega), ?_⟩
    simp only [List.map_cons, pairD] at fin
    refine fin (oddL s0 ++ _) _ _ _ ?_ ?_ (fun l hl => (List.mem_append.mp hl).elim (o1 l) (o2 l))
    · simp
    · simp
theorem math (ns : List Int) (h : ns.length ≤ 63) (hb : ∀ z ∈ ns, PySem.Builtin.Int.intBits z ≤ 1048576) : ∃ S, callD Pg 55 i_law [.frz ns] [] [] = .ok (.bl true) S := by
  have g : Ok (callD Pg 55 i_law [.frz ns] [] []) noE fun d S => d = .bl true := by
    rw [show (55 : Nat) = 54 + 1 from rfl, callD_succ (G := Fd.f_law) rfl]
    unfold FD.run
    refine ok_out ?_
    rw [show Fd.f_law.body = [_, .loop (.one 2) (.rng1 (.cst (.int 6))) (tl 0), _] from rfl]
    show OkS (evSs (cxt Pg 54) [] [_, _, _] [some (.frz ns), none, none, none, none, none, none, none, none, none, none] []) _ _
    generalize ht : tl 0 = b
    decreasing_trivial
    refine bag_w (k := 53) rfl fun S1 hbg ⟨c, hc⟩ => ?_
    subst hc
    decreasing_trivial
    refine ⟨⟨by decide, by decide⟩, loop_w (l := rangeD 0 6) (fun i F S => ∃ x2 x3 x4 x5 x6 x7 x8 x9 x10, F = [some (.frz ns), some (.ref 0), x2, x3, x4, x5, x6, x7, x8, x9, x10] ∧ Bag S 0 ∧ S.length = 1) rfl ⟨_, _, _, _, _, _, _, _, _, rfl, hbg, rfl⟩ (fun i d F S hd ⟨x2, x3, x4, x5, x6, x7, x8, x9, x10, e, b1, l1⟩ => ?_) (fun F S ⟨x2, x3, x4, x5, x6, x7, x8, x9, x10, e, b1, l1⟩ => ?_)⟩
    · subst e
      decreasing_trivial
      rw [← ht]
      exact turn b1 l1 fun y3 y4 y5 y6 y7 y8 y9 y10 S' b2 l2 => ⟨_, _, _, _, _, _, _, _, _, rfl, b2, l2⟩
    · subst e
      cases S with
      | nil => cases l1
      | cons c S =>
        cases S with
        | cons _ _ => cases l1
        | nil =>
          rw [deep_k]
          exact rfl
  obtain ⟨d, S, e, rfl⟩ := g.ex
  exact ⟨S, e⟩
end K05
set_option Elab.async false
set_option linter.all false
set_option maxRecDepth 100000
set_option maxHeartbeats 0
namespace K05
open PySem PySem.Spec PyProof.Rows L2 OM
def top (i : Nat) : Stmt := PySem.Challenge.pw_oncemarks_k05_trees_recognized.main.body.getD i (.Pass ⟨0, 0, 0, 0⟩)
def sub (i j : Nat) : Stmt := (clsBody (top i)).getD j (.Pass ⟨0, 0, 0, 0⟩)
def x_InvalidTree : XC := ⟨1, 29, [73, 110, 118, 97, 108, 105, 100, 84, 114, 101, 101], some 2, 0, ⟨fun K => He.ma K (He.ga K "InvalidTree") "__init__", "__init__", "InvalidTree.__init__", argsOf (sub 4 0), bodyOf (sub 4 0), scopeOf (sub 4 0)⟩⟩
def x_InvalidSignature : XC := ⟨2, 29, [73, 110, 118, 97, 108, 105, 100, 83, 105, 103, 110, 97, 116, 117, 114, 101], some 34, 0, ⟨fun K => He.ma K (He.ga K "InvalidSignature") "__init__", "__init__", "InvalidSignature.__init__", argsOf (sub 3 0), bodyOf (sub 3 0), scopeOf (sub 3 0)⟩⟩
def x_UnknownWord : XC := ⟨3, 29, [85, 110, 107, 110, 111, 119, 110, 87, 111, 114, 100], some 23, 1, ⟨fun K => He.ma K (He.ga K "UnknownWord") "__init__", "__init__", "UnknownWord.__init__", argsOf (sub 6 0), bodyOf (sub 6 0), scopeOf (sub 6 0)⟩⟩
def e_law : Ent := ⟨37, some "law", ⟨fun K => He.ga K "law", "law", "law", argsOf (top 40), bodyOf (top 40), scopeOf (top 40)⟩, Fd.f_law, ["_law_script", "_law_bag_here", "_law_turn", "_law_spec_here", "_law_sort_z", "_law_odd", "_law_bent", "_law_made_z", "_law_tree_z", "_law_word_z", "_law_many_z"], [(1, [])], true⟩
def e__law_bag : Ent := ⟨23, some "_law_bag", ⟨fun K => He.ga K "_law_bag", "_law_bag", "_law_bag", argsOf (top 26), bodyOf (top 26), scopeOf (top 26)⟩, Fd.f__law_bag, ["_law_script"], [(1, [])], false⟩
def e__law_spec : Ent := ⟨30, some "_law_spec", ⟨fun K => He.ga K "_law_spec", "_law_spec", "_law_spec", argsOf (top 33), bodyOf (top 33), scopeOf (top 33)⟩, Fd.f__law_spec, ["_law_bag_here", "_law_most_z", "_law_names_here", "_law_sorts_z", "_law_makers_z", "_law_k"], [(2, [])], false⟩
def e__law_sig : Ent := ⟨31, some "_law_sig", ⟨fun K => He.ga K "_law_sig", "_law_sig", "_law_sig", argsOf (top 34), bodyOf (top 34), scopeOf (top 34)⟩, Fd.f__law_sig, ["_law_spec_here"], [(1, [])], false⟩
def e__law_tree : Ent := ⟨32, some "_law_tree", ⟨fun K => He.ga K "_law_tree", "_law_tree", "_law_tree", argsOf (top 35), bodyOf (top 35), scopeOf (top 35)⟩, Fd.f__law_tree, ["_law_bag_here", "_law_spec_here", "_law_deep", "_law_word_z", "_law_many_z", "_law_k"], [(3, [])], false⟩
def e__law_pull : Ent := ⟨24, some "_law_pull", ⟨fun K => He.ga K "_law_pull", "_law_pull", "_law_pull", argsOf (top 27), bodyOf (top 27), scopeOf (top 27)⟩, Fd.f__law_pull, ["_law_bag_here", "_law_many_z", "_law_cell", "_law_got", "_law_seed"], [(2, [])], false⟩
def e__law_same : Ent := ⟨26, some "_law_same", ⟨fun K => He.ga K "_law_same", "_law_same", "_law_same", argsOf (top 29), bodyOf (top 29), scopeOf (top 29)⟩, Fd.f__law_same, ["_law_found_z", "_law_due_z", "_law_one_z", "_law_other_z"], [(2, [])], false⟩
def e_is_tree : Ent := ⟨8, some "is_tree", ⟨fun K => He.ga K "is_tree", "is_tree", "is_tree", argsOf (top 16), bodyOf (top 16), scopeOf (top 16)⟩, Fd.f_is_tree, ["signature", "value", "depth", "part"], [(2, []), (0, [1, 2]), (3, [])], false⟩
def e_depth_of : Ent := ⟨11, some "depth_of", ⟨fun K => He.ga K "depth_of", "depth_of", "depth_of", argsOf (top 19), bodyOf (top 19), scopeOf (top 19)⟩, Fd.f_depth_of, ["tree", "part"], [(1, []), (0, [14])], false⟩
def e_check_tree : Ent := ⟨9, some "check_tree", ⟨fun K => He.ga K "check_tree", "check_tree", "check_tree", argsOf (top 17), bodyOf (top 17), scopeOf (top 17)⟩, Fd.f_check_tree, ["signature", "value"], [(2, [])], false⟩
def e__law_depth : Ent := ⟨35, some "_law_depth", ⟨fun K => He.ga K "_law_depth", "_law_depth", "_law_depth", argsOf (top 38), bodyOf (top 38), scopeOf (top 38)⟩, Fd.f__law_depth, ["_law_tree_z", "_law_part_z"], [(1, [])], false⟩
def e__law_with : Ent := ⟨33, some "_law_with", ⟨fun K => He.ga K "_law_with", "_law_with", "_law_with", argsOf (top 36), bodyOf (top 36), scopeOf (top 36)⟩, Fd.f__law_with, ["_law_tree_z", "_law_path_here", "_law_late", "_law_at_z"], [(3, [])], false⟩
def e__law_path : Ent := ⟨34, some "_law_path", ⟨fun K => He.ga K "_law_path", "_law_path", "_law_path", argsOf (top 37), bodyOf (top 37), scopeOf (top 37)⟩, Fd.f__law_path, ["_law_bag_here", "_law_tree_z", "_law_found_z", "_law_here", "_law_k"], [(2, [])], false⟩
def e__law_of : Ent := ⟨25, some "_law_of", ⟨fun K => He.ga K "_law_of", "_law_of", "_law_of", argsOf (top 28), bodyOf (top 28), scopeOf (top 28)⟩, Fd.f__law_of, ["_law_bag_here", "_law_some_z"], [(2, [])], false⟩
def e__law_deep_trees_so : Ent := ⟨36, some "_law_deep_trees_so", ⟨fun K => He.ga K "_law_deep_trees_so", "_law_deep_trees_so", "_law_deep_trees_so", argsOf (top 39), bodyOf (top 39), scopeOf (top 39)⟩, Fd.f__law_deep_trees_so, ["_law_chain", "_law_k", "_law_line_z", "_law_pairs_z", "_law_v0", "_law_beside"], [(0, [])], false⟩
def e__law_names : Ent := ⟨29, some "_law_names", ⟨fun K => He.ga K "_law_names", "_law_names", "_law_names", argsOf (top 32), bodyOf (top 32), scopeOf (top 32)⟩, Fd.f__law_names, ["_law_bag_here", "_law_many_z", "_law_letters", "_law_stem", "_law_k", "_law_at_z", "_law_first", "_law_found_z", "_law_one_z"], [(2, [])], false⟩
def e_Signature___init__ : Ent := ⟨13, none, ⟨fun K => He.ma K (He.ga K "Signature") "__init__", "__init__", "Signature.__init__", argsOf (sub 24 0), bodyOf (sub 24 0), scopeOf (sub 24 0)⟩, Fd.f_Signature___init__, ["self", "sorts", "constructors", "one"], [(3, [])], false⟩
def e_Signature_sorts : Ent := ⟨14, none, ⟨fun K => getAd K (He.ga K "Signature") "sorts", "sorts", "Signature.sorts", argsOf (sub 24 1), bodyOf (sub 24 1), scopeOf (sub 24 1)⟩, Fd.f_Signature_sorts, ["self"], [(1, [])], false⟩
def e_is_whole : Ent := ⟨5, some "is_whole", ⟨fun K => He.ga K "is_whole", "is_whole", "is_whole", argsOf (top 11), bodyOf (top 11), scopeOf (top 11)⟩, Fd.f_is_whole, ["value"], [(1, [])], false⟩
def e_Signature___contains__ : Ent := ⟨20, none, ⟨fun K => He.ma K (He.ga K "Signature") "__contains__", "__contains__", "Signature.__contains__", argsOf (sub 24 7), bodyOf (sub 24 7), scopeOf (sub 24 7)⟩, Fd.f_Signature___contains__, ["self", "word"], [(2, [])], false⟩
def e_Signature_arity : Ent := ⟨17, none, ⟨fun K => He.ma K (He.ga K "Signature") "arity", "arity", "Signature.arity", argsOf (sub 24 4), bodyOf (sub 24 4), scopeOf (sub 24 4)⟩, Fd.f_Signature_arity, ["self", "word", "name", "many"], [(2, [])], false⟩
def e_is_name : Ent := ⟨10, some "is_name", ⟨fun K => He.ga K "is_name", "is_name", "is_name", argsOf (top 18), bodyOf (top 18), scopeOf (top 18)⟩, Fd.f_is_name, ["tree"], [(1, [])], false⟩
def e_are_words : Ent := ⟨7, some "are_words", ⟨fun K => He.ga K "are_words", "are_words", "are_words", argsOf (top 13), bodyOf (top 13), scopeOf (top 13)⟩, Fd.f_are_words, ["values", "least", "most", "value"], [(3, [])], false⟩
def e_is_pair : Ent := ⟨12, some "is_pair", ⟨fun K => He.ga K "is_pair", "is_pair", "is_pair", argsOf (top 23), bodyOf (top 23), scopeOf (top 23)⟩, Fd.f_is_pair, ["value"], [(1, [])], false⟩
def e_Signature_words : Ent := ⟨18, none, ⟨fun K => He.ma K (He.ga K "Signature") "words", "words", "Signature.words", argsOf (sub 24 5), bodyOf (sub 24 5), scopeOf (sub 24 5)⟩, Fd.f_Signature_words, ["self", "name", "many"], [(1, [])], false⟩
def e_is_word : Ent := ⟨6, some "is_word", ⟨fun K => He.ga K "is_word", "is_word", "is_word", argsOf (top 12), bodyOf (top 12), scopeOf (top 12)⟩, Fd.f_is_word, ["value", "sign"], [(1, [])], false⟩
def wc : WC := ⟨⟨fun K => He.ga K "_law_why", "_law_why", "_law_why", argsOf (top 31), bodyOf (top 31), scopeOf (top 31)⟩, "_law_why", ⟨fun K => He.ga K "_law_field", "_law_field", "_law_field", argsOf (top 30), bodyOf (top 30), scopeOf (top 30)⟩, "_law_field", Fd.f__law_field, ["_law_e"], 28, 29, "_law_ask_z", "_law_e", "MarkError", "Missing", "NothingLeft"⟩
def t : Tbl := ⟨["MOST_SORTS", "MOST_CONSTRUCTORS", "MOST_LETTERS", "RESERVED"], ((["_law_script", "signature", "value", "_law_bag_here", "_law_most_z", "_law_spec_here", "_law_deep", "_law_many_z", "_law_found_z", "_law_due_z", "depth", "sorts", "__contains__", "arity", "tree", "_law_tree_z", "_law_path_here", "_law_late", "_law_some_z", "self"] : List PySem.Str) ++ (["constructors", "own_sorts", "own_makers", "word", "words", "values", "least", "most", "_law_e", "tag", "index", "limit", "at", "line", "part", "paper"] : List PySem.Str) : List PySem.Str), ["range", "list", "sorted", "tuple", "len", "int", "isinstance", "all", "zip", "bool", "str", "max"], [e_law, e__law_bag, e__law_spec, e__law_sig, e__law_tree, e__law_pull, e__law_same, e_is_tree, e_depth_of, e_check_tree, e__law_depth, e__law_with, e__law_path, e__law_of, e__law_deep_trees_so, e__law_names, e_Signature___init__, e_Signature_sorts, e_is_whole, e_Signature___contains__, e_Signature_arity, e_is_name, e_are_words, e_is_pair, e_Signature_words, e_is_word], gl, [(0, "Signature"), (1, "InvalidTree"), (2, "InvalidSignature"), (3, "UnknownWord")], cs, [x_InvalidTree, x_InvalidSignature, x_UnknownWord], some wc, "/claim/cut.py"⟩
theorem s_law_0 : ShB t.an e_law.d e_law.F.ps 1 [] 0 := fun _ _ _ _ _ _ us ws _ hu hw e => match us, ws, hu, hw with
  | [_], [], _, _ => by cases e; rfl
theorem s__law_bag_0 : ShB t.an e__law_bag.d e__law_bag.F.ps 1 [] 0 := fun _ _ _ _ _ _ us ws _ hu hw e => match us, ws, hu, hw with
  | [_], [], _, _ => by cases e; rfl
theorem s__law_spec_0 : ShB t.an e__law_spec.d e__law_spec.F.ps 2 [] 0 := fun _ _ _ _ _ _ us ws _ hu hw e => match us, ws, hu, hw with
  | [_, _], [], _, _ => by cases e; rfl
theorem s__law_sig_0 : ShB t.an e__law_sig.d e__law_sig.F.ps 1 [] 0 := fun _ _ _ _ _ _ us ws _ hu hw e => match us, ws, hu, hw with
  | [_], [], _, _ => by cases e; rfl
theorem s__law_tree_0 : ShB t.an e__law_tree.d e__law_tree.F.ps 3 [] 0 := fun _ _ _ _ _ _ us ws _ hu hw e => match us, ws, hu, hw with
  | [_, _, _], [], _, _ => by cases e; rfl
theorem s__law_pull_0 : ShB t.an e__law_pull.d e__law_pull.F.ps 2 [] 0 := fun _ _ _ _ _ _ us ws _ hu hw e => match us, ws, hu, hw with
  | [_, _], [], _, _ => by cases e; rfl
theorem s__law_same_0 : ShB t.an e__law_same.d e__law_same.F.ps 2 [] 0 := fun _ _ _ _ _ _ us ws _ hu hw e => match us, ws, hu, hw with
  | [_, _], [], _, _ => by cases e; rfl
theorem s_is_tree_0 : ShB t.an e_is_tree.d e_is_tree.F.ps 2 [] 1 := fun _ _ _ _ _ _ _ us ws dw _ hu hw hd e => match us, ws, dw, hu, hw, hd with
  | [_, _], [], [_], _, _, _ => by cases e; exact ⟨_, rfl, rfl⟩
theorem s_is_tree_1 : ShB t.an e_is_tree.d e_is_tree.F.ps 0 [1, 2] 1 := fun _ _ _ _ _ _ _ us ws dw _ hu hw hd e => match us, ws, dw, hu, hw, hd with
  | [], [_, _], [_], _, _, _ => by cases e; exact ⟨_, rfl, rfl⟩
theorem s_is_tree_2 : ShB t.an e_is_tree.d e_is_tree.F.ps 3 [] 1 := fun _ _ _ _ _ _ _ us ws dw _ hu hw hd e => match us, ws, dw, hu, hw, hd with
  | [_, _, _], [], [_], _, _, _ => by cases e; exact ⟨_, rfl, rfl⟩
theorem s_depth_of_0 : ShB t.an e_depth_of.d e_depth_of.F.ps 1 [] 0 := fun _ _ _ _ _ _ us ws _ hu hw e => match us, ws, hu, hw with
  | [_], [], _, _ => by cases e; rfl
theorem s_depth_of_1 : ShB t.an e_depth_of.d e_depth_of.F.ps 0 [14] 0 := fun _ _ _ _ _ _ us ws _ hu hw e => match us, ws, hu, hw with
  | [], [_], _, _ => by cases e; rfl
theorem s_check_tree_0 : ShB t.an e_check_tree.d e_check_tree.F.ps 2 [] 0 := fun _ _ _ _ _ _ us ws _ hu hw e => match us, ws, hu, hw with
  | [_, _], [], _, _ => by cases e; rfl
theorem s__law_depth_0 : ShB t.an e__law_depth.d e__law_depth.F.ps 1 [] 0 := fun _ _ _ _ _ _ us ws _ hu hw e => match us, ws, hu, hw with
  | [_], [], _, _ => by cases e; rfl
theorem s__law_with_0 : ShB t.an e__law_with.d e__law_with.F.ps 3 [] 0 := fun _ _ _ _ _ _ us ws _ hu hw e => match us, ws, hu, hw with
  | [_, _, _], [], _, _ => by cases e; rfl
theorem s__law_path_0 : ShB t.an e__law_path.d e__law_path.F.ps 2 [] 0 := fun _ _ _ _ _ _ us ws _ hu hw e => match us, ws, hu, hw with
  | [_, _], [], _, _ => by cases e; rfl
theorem s__law_of_0 : ShB t.an e__law_of.d e__law_of.F.ps 2 [] 0 := fun _ _ _ _ _ _ us ws _ hu hw e => match us, ws, hu, hw with
  | [_, _], [], _, _ => by cases e; rfl
theorem s__law_deep_trees_so_0 : ShB t.an e__law_deep_trees_so.d e__law_deep_trees_so.F.ps 0 [] 0 := fun _ _ _ _ _ _ us ws _ hu hw e => match us, ws, hu, hw with
  | [], [], _, _ => by cases e; rfl
theorem s__law_names_0 : ShB t.an e__law_names.d e__law_names.F.ps 2 [] 0 := fun _ _ _ _ _ _ us ws _ hu hw e => match us, ws, hu, hw with
  | [_, _], [], _, _ => by cases e; rfl
theorem s_Signature___init___0 : ShB t.an e_Signature___init__.d e_Signature___init__.F.ps 3 [] 1 := fun _ _ _ _ _ _ _ us ws dw _ hu hw hd e => match us, ws, dw, hu, hw, hd with
  | [_, _, _], [], [_], _, _, _ => by cases e; exact ⟨_, rfl, rfl⟩
theorem s_Signature_sorts_0 : ShB t.an e_Signature_sorts.d e_Signature_sorts.F.ps 1 [] 0 := fun _ _ _ _ _ _ us ws _ hu hw e => match us, ws, hu, hw with
  | [_], [], _, _ => by cases e; rfl
theorem s_is_whole_0 : ShB t.an e_is_whole.d e_is_whole.F.ps 1 [] 0 := fun _ _ _ _ _ _ us ws _ hu hw e => match us, ws, hu, hw with
  | [_], [], _, _ => by cases e; rfl
theorem s_Signature___contains___0 : ShB t.an e_Signature___contains__.d e_Signature___contains__.F.ps 2 [] 0 := fun _ _ _ _ _ _ us ws _ hu hw e => match us, ws, hu, hw with
  | [_, _], [], _, _ => by cases e; rfl
theorem s_Signature_arity_0 : ShB t.an e_Signature_arity.d e_Signature_arity.F.ps 2 [] 0 := fun _ _ _ _ _ _ us ws _ hu hw e => match us, ws, hu, hw with
  | [_, _], [], _, _ => by cases e; rfl
theorem s_is_name_0 : ShB t.an e_is_name.d e_is_name.F.ps 1 [] 0 := fun _ _ _ _ _ _ us ws _ hu hw e => match us, ws, hu, hw with
  | [_], [], _, _ => by cases e; rfl
theorem s_are_words_0 : ShB t.an e_are_words.d e_are_words.F.ps 3 [] 0 := fun _ _ _ _ _ _ us ws _ hu hw e => match us, ws, hu, hw with
  | [_, _, _], [], _, _ => by cases e; rfl
theorem s_is_pair_0 : ShB t.an e_is_pair.d e_is_pair.F.ps 1 [] 0 := fun _ _ _ _ _ _ us ws _ hu hw e => match us, ws, hu, hw with
  | [_], [], _, _ => by cases e; rfl
theorem s_Signature_words_0 : ShB t.an e_Signature_words.d e_Signature_words.F.ps 1 [] 0 := fun _ _ _ _ _ _ us ws _ hu hw e => match us, ws, hu, hw with
  | [_], [], _, _ => by cases e; rfl
theorem s_is_word_0 : ShB t.an e_is_word.d e_is_word.F.ps 1 [] 0 := fun _ _ _ _ _ _ us ws _ hu hw e => match us, ws, hu, hw with
  | [_], [], _, _ => by cases e; rfl
theorem shp : ShA t.an t.es := ⟨⟨s_law_0, trivial⟩, ⟨s__law_bag_0, trivial⟩, ⟨s__law_spec_0, trivial⟩, ⟨s__law_sig_0, trivial⟩, ⟨s__law_tree_0, trivial⟩, ⟨s__law_pull_0, trivial⟩, ⟨s__law_same_0, trivial⟩, ⟨s_is_tree_0, s_is_tree_1, s_is_tree_2, trivial⟩, ⟨s_depth_of_0, s_depth_of_1, trivial⟩, ⟨s_check_tree_0, trivial⟩, ⟨s__law_depth_0, trivial⟩, ⟨s__law_with_0, trivial⟩, ⟨s__law_path_0, trivial⟩, ⟨s__law_of_0, trivial⟩, ⟨s__law_deep_trees_so_0, trivial⟩, ⟨s__law_names_0, trivial⟩, ⟨s_Signature___init___0, trivial⟩, ⟨s_Signature_sorts_0, trivial⟩, ⟨s_is_whole_0, trivial⟩, ⟨s_Signature___contains___0, trivial⟩, ⟨s_Signature_arity_0, trivial⟩, ⟨s_is_name_0, trivial⟩, ⟨s_are_words_0, trivial⟩, ⟨s_is_pair_0, trivial⟩, ⟨s_Signature_words_0, trivial⟩, ⟨s_is_word_0, trivial⟩, trivial⟩
theorem sx_InvalidTree : ShX t.an x_InvalidTree := fun _ _ _ _ _ _ _ _ us hu => match us, hu with
  | [_], _ => by rfl
theorem sx_InvalidSignature : ShX t.an x_InvalidSignature := fun _ _ _ _ _ _ _ _ us hu => match us, hu with
  | [_], _ => by rfl
theorem sx_UnknownWord : ShX t.an x_UnknownWord := fun _ _ _ _ _ _ _ _ us hu => match us, hu with
  | [_], _ => by rfl
theorem shx : ShXs t.an t.xs := ⟨sx_InvalidTree, sx_InvalidSignature, sx_UnknownWord, trivial⟩
theorem shw : ShWs t.an t.why := ⟨fun _ _ _ _ _ _ _ => by rfl, fun _ _ _ _ _ _ _ => by rfl⟩
theorem chk : tblOk t = true := by decide +kernel
theorem prog_eq : t.P = Pg := rfl
abbrev R : PySem.W.OpenRow := PySem.W.OpenLaw.row PySem.Challenge.rw_oncemarks_k05_trees_recognized
abbrev hk : PySem.W.Hook := OM.hookO 5 t
def ob (s : PySem.W.SharedT) : OM.AlO := OM.obsOG 5 t (HandSHeadRun.getT s)
theorem ob_eq (s : PySem.W.SharedT) : ob s = hk.obs s.abs := OM.obsOG_eq (HandSHeadRun.getT_eq s)
theorem run (w : World) : HandSHeadRun.RunEq R (PySem.W.view R.prog [40]) hk ob 4000 ((["MarkError", "Missing", "InvalidSignature", "InvalidTree", "InvalidText", "UnknownWord", "NothingLeft", "RESERVED", "MOST_LETTERS", "is_whole", "is_word", "are_words", "MOST_DEPTH", "is_tree", "check_tree", "is_name", "depth_of", "MOST_SORTS", "MOST_CONSTRUCTORS", "is_pair"] : List PySem.Str) ++ (["Signature", "_law_bag", "_law_pull", "_law_of", "_law_same", "_law_field", "_law_why", "_law_names", "_law_spec", "_law_sig", "_law_tree", "_law_with", "_law_path", "_law_depth", "_law_deep_trees_so"] : List PySem.Str) : List PySem.Str) w := by
  intro os
  kernel_rfl
end K05
open PySem PySem.W PySem.Calls PyProof.Rows
theorem PySem.Challenge.cw_oncemarks_k05_trees_recognized_holds : PySem.Challenge.rw_oncemarks_k05_trees_recognized.Holds := by
  w_on; o_law
  refine HandSHeadRun.head_any (r := OpenLaw.row PySem.Challenge.rw_oncemarks_k05_trees_recognized) (q := view (OpenLaw.row PySem.Challenge.rw_oncemarks_k05_trees_recognized).prog [40]) (H := K05.hk) (ob := K05.ob) (M := 4000) (loose := ((["MarkError", "Missing", "InvalidSignature", "InvalidTree", "InvalidText", "UnknownWord", "NothingLeft", "RESERVED", "MOST_LETTERS", "is_whole", "is_word", "are_words", "MOST_DEPTH", "is_tree", "check_tree", "is_name", "depth_of", "MOST_SORTS", "MOST_CONSTRUCTORS", "is_pair"] : List PySem.Str) ++ (["Signature", "_law_bag", "_law_pull", "_law_of", "_law_same", "_law_field", "_law_why", "_law_names", "_law_spec", "_law_sig", "_law_tree", "_law_with", "_law_path", "_law_depth", "_law_deep_trees_so"] : List PySem.Str) : List PySem.Str)) (d := HandSHeadRun.topDef (OpenLaw.row PySem.Challenge.rw_oncemarks_k05_trees_recognized).prog 40) (kwd := []) K05.ob_eq
    (by kernel_rfl) (fun s => by kernel_rfl) K05.run (by kernel_rfl) (by kernel_rfl) (by kernel_rfl) (by rfl) (by first | assumption | decide +kernel) (by decide +kernel) ⟨rfl, rfl, rfl, rfl, rfl, by decide +kernel⟩ ?hw ?hc
  case hw => w_witness2
  case hc =>
    refine LamX.walk_ofTsE (l := PySem.Challenge.rw_oncemarks_k05_trees_recognized) (n := 63) (k := 4 * 55) (x := "_law_script") (CX := fun w => L2.CX (PySem.Challenge.rw_oncemarks_k05_trees_recognized).prog w) rfl (by decide) (by kernel_rfl) ⟨rfl, by decide, by decide⟩ ?F (fun _ _ _ _ _ z => OM.cx_end z)
    intro w mg fa h Y G hmg0
    obtain ⟨K, KX, c⟩ := Y
    have hmg : mg ("law" : PySem.Str) = some (.ref fa) := by
      have e : (HandSHeadRun.topDef (OpenLaw.row PySem.Challenge.rw_oncemarks_k05_trees_recognized).prog 40).name = ("law" : PySem.Str) := by kernel_rfl
      rw [← e]
      exact hmg0
    exact OM.law_end (t := K05.t) (l := PySem.Challenge.rw_oncemarks_k05_trees_recognized) (e := K05.e_law) (n := 37) KX G c K05.chk K05.shp K05.shx K05.shw (by rfl) (by rfl) rfl rfl rfl rfl (by decide +kernel) hmg (by rw [K05.prog_eq]; exact K05.math)
