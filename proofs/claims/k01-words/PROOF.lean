import PyProof.Rows.All
import Wide.All
import OpenK.AllK
import Wide.FinOn
import PySem.Challenge.RW_oncemarks_k01_words_recognized
import HandS.ForMost
import HandS.Exc
import HandS.TupAny
import HandS.IsInst
import HandS.Codes
import HandS.Flow
import HandS.Zip
import HandS.Lambda
import HandS.Defaults
import KE.KStateDown
import HandS.Head0
import HandS.Head1
import HandS.Head2
import HandS.HeadEnd
import HandS.HeadHook1
import HandS.HeadHook2
import HandS.HeadHook3
import HandS.HeadHook4
set_option Elab.async false
set_option linter.all false
set_option maxRecDepth 100000
/-! OmBase: abstract data, the small language that the program's defs are read as, and its evaluator. -/
namespace OM

/-- abstract data: a tuple, a list, a dict, an instance stand for themselves where nothing changes them any more; ref n is the n-th cell of the store -/
inductive D where
  | non
  | bl (b : Bool)
  | int (i : Int)
  | str (x : List Nat)
  | tup (xs : List D)
  | lst (xs : List D)
  | dct (ks vs : List D)
  | obj (c : Nat) (ns : List Nat) (vs : List D)
  | exc (c : Nat) (ns : List Nat) (vs : List D)
  | ref (n : Nat)
  | fn (k : Nat)
  | cls (k : Nat)
  | ty (k : Nat)
  | frz (xs : List Int)
  deriving Inhabited

/-- what a cell of the store holds -/
inductive Cell where
  | lst (xs : List D)
  | dct (ks vs : List D)
  | obj (c : Nat) (ns : List Nat) (vs : List D)
  deriving Inhabited

abbrev Sto := List Cell
abbrev Fr := List (Option D)

inductive Out (α : Type) where
  | ok (a : α) (S : Sto)
  | exc (x : D) (S : Sto)
  | bad

def Out.bind {α β : Type} (o : Out α) (f : α → Sto → Out β) : Out β :=
  match o with
  | .ok a S => f a S
  | .exc x S => .exc x S
  | .bad => .bad

mutual
/-- all cells that it names lie below m -/
def D.lo (m : Nat) : D → Bool
  | .tup xs => loL m xs
  | .lst xs => loL m xs
  | .dct ks vs => loL m ks && loL m vs
  | .obj _ _ vs => loL m vs
  | .exc _ _ vs => loL m vs
  | .ref n => decide (n < m)
  | _ => true
def loL (m : Nat) : List D → Bool
  | [] => true
  | d :: ds => D.lo m d && loL m ds
end

mutual
/-- plain data: None, bools, ints, texts, and tuples and lists of them -/
def D.plain : D → Bool
  | .non => true
  | .bl _ => true
  | .int _ => true
  | .str _ => true
  | .tup xs => plainL xs
  | .lst xs => plainL xs
  | _ => false
def plainL : List D → Bool
  | [] => true
  | d :: ds => D.plain d && plainL ds
end

mutual
/-- how deep plain data is nested -/
def D.dep : D → Nat
  | .tup xs => depL xs + 1
  | .lst xs => depL xs + 1
  | _ => 0
def depL : List D → Nat
  | [] => 0
  | d :: ds => max (D.dep d) (depL ds)
end

def b2i (b : Bool) : Int := if b then 1 else 0

mutual
/-- == of plain data -/
def D.eqv : D → D → Bool
  | .non, .non => true
  | .bl a, .bl b => a == b
  | .bl a, .int j => b2i a == j
  | .int i, .bl b => i == b2i b
  | .int i, .int j => i == j
  | .str x, .str y => x == y
  | .tup xs, .tup ys => eqvL xs ys
  | .lst xs, .lst ys => eqvL xs ys
  | _, _ => false
def eqvL : List D → List D → Bool
  | [], [] => true
  | d :: ds, e :: es => D.eqv d e && eqvL ds es
  | _, _ => false
end

inductive BinO where
  | add | sub | mul | fdiv | mod | pow
  deriving DecidableEq
inductive CmpO where
  | eq | ne | lt | le | gt | ge | is | isn | inn | nin
  deriving DecidableEq
/-- built-in functions, called with values -/
inductive Bi where
  | len | all | any | int | str | bool | list | tuple | sorted | sum | max | min | repr
  deriving DecidableEq
/-- methods of built-in types -/
inductive Bm where
  | join | append
  deriving DecidableEq
/-- targets of a loop -/
inductive Tgt where
  | one (i : Nat)
  | tup (is : List Nat)

mutual
inductive CE where
  | slot (i : Nat)
  | cst (d : D)
  | glo (g : Nat)
  | bin (o : BinO) (a b : CE)
  | neg (a : CE)
  | cmp (o : CmpO) (a b : CE)
  | chain (o o' : CmpO) (a b c : CE)
  | bop (isAnd : Bool) (es : List CE)
  | not (a : CE)
  | ite (c a b : CE)
  | call (keep : Bool) (f : Nat) (as : List CE) (kn : List Nat) (ka : List CE)
  | bcall (mu : Bool) (b : Bi) (as : List CE)
  | isin (a : CE) (ts : List CE)
  | bmeth (b : Bm) (o : CE) (as : List CE)
  | meth (keep : Bool) (o : CE) (m : Nat) (as : List CE) (kn : List Nat) (ka : List CE)
  | attr (o : CE) (f : Nat)
  | idx (a b : CE)
  | sli (a : CE) (lo hi : List CE)
  | tup (es : List CE)
  | lst (mu : Bool) (es : List CE)
  | comp (mu : Bool) (elt : CE) (gs : List Gen)
inductive Gen where
  | mk (t : Tgt) (it : IT) (ifs : List CE)
inductive IT where
  | ov (e : CE)
  | rng1 (b : CE)
  | rng (a b : CE)
  | zip (a b : CE)
  | enm (a : CE)
end
inductive CS where
  | exp (e : CE)
  | ret (e : CE)
  | retN
  | set (i : Nat) (e : CE)
  | unp (is : List Nat) (e : CE)
  | par (is : List Nat) (es : List CE)
  | sub (o i e : CE)
  | fld (o : CE) (f : Nat) (e : CE)
  | aug (i : Nat) (o : BinO) (e : CE)
  | cond (c : CE) (a b : List CS)
  | loop (t : Tgt) (it : IT) (b : List CS)
  | whl (c : CE) (b : List CS)
  | pas | brk | cnt

/-- a def: its parameters (by their ids), its slots, its defaults (of the last parameters), its body -/
structure FD where
  ps : List Nat
  ns : Nat
  dv : List D
  body : List CS

/-! ### values -/
def truth (S : Sto) : D → Option Bool
  | .non => some false
  | .bl b => some b
  | .int i => some (i != 0)
  | .str x => some (!x.isEmpty)
  | .tup xs => some (!xs.isEmpty)
  | .lst xs => some (!xs.isEmpty)
  | .ref n => match S[n]? with
    | some (.lst xs) => some (!xs.isEmpty)
    | _ => none
  | _ => none

/-- the largest length that is asked for nowhere else: 2 ^ 24 -/
def line : Nat := 16777216

/-- a text as the model lets it stand -/
def okS (x : List Nat) : Bool := decide (x.length ≤ line) && x.all fun c => decide (c < 1114112)

/-- the items of a list or tuple -/
def seqOf (S : Sto) : D → Option (List D)
  | .tup xs => some xs
  | .lst xs => some xs
  | .ref n => match S[n]? with
    | some (.lst xs) => some xs
    | _ => none
  | _ => none
def lstOf (S : Sto) : D → Option (List D)
  | .lst xs => some xs
  | .ref n => match S[n]? with
    | some (.lst xs) => some xs
    | _ => none
  | _ => none

/-- plain data: itself, or what a cell holds -/
def datOf (S : Sto) (d : D) : Option D :=
  if d.plain then (if D.dep d ≤ 64 then some d else none) else match d with
    | .ref n => match S[n]? with
      | some (.lst xs) => if plainL xs && decide (depL xs ≤ 63) then some (.lst xs) else none
      | _ => none
    | _ => none

def okIf (c : Bool) (d : D) (S : Sto) : Out D := if c then .ok d S else .bad

def vAdd (x y : D) (S : Sto) : Out D :=
  match x with
  | .int i => match y with
    | .int j => .ok (.int (i + j)) S
    | _ => .bad
  | .str a => match y with
    | .str b => okIf (decide (a.length + b.length ≤ line)) (.str (a ++ b)) S
    | _ => .bad
  | .tup xs => match y with
    | .tup ys => okIf (decide (xs.length + ys.length ≤ line)) (.tup (xs ++ ys)) S
    | _ => .bad
  | x => match lstOf S x, lstOf S y with
    | some xs, some ys => okIf (decide (xs.length + ys.length ≤ line)) (.lst (xs ++ ys)) S
    | _, _ => .bad
def mulFits (i j : Int) : Bool := (decide (-18446744073709551616 < i) && decide (i < 18446744073709551616)) || (decide (-18446744073709551616 < j) && decide (j < 18446744073709551616))
def vMul (x y : D) (S : Sto) : Out D :=
  match y with
  | .int j => match x with
    | .int i => okIf (mulFits i j) (.int (i * j)) S
    | x => match lstOf S x with
      | some xs => okIf (decide (0 ≤ j) && decide (j ≤ 16777216) && decide (xs.length * j.toNat ≤ line)) (.lst (List.replicate j.toNat xs).flatten) S
      | none => .bad
  | _ => .bad
def vBin (o : BinO) (x y : D) (S : Sto) : Out D :=
  match o with
  | .add => vAdd x y S
  | .mul => vMul x y S
  | .sub => match x, y with
    | .int i, .int j => .ok (.int (i - j)) S
    | _, _ => .bad
  | .fdiv => match x, y with
    | .int i, .int j => okIf (decide (0 < j) && decide (j < 1073741824)) (.int (i / j)) S
    | _, _ => .bad
  | .mod => match x, y with
    | .int i, .int j => okIf (decide (0 < j)) (.int (i % j)) S
    | _, _ => .bad
  | .pow => match x, y with
    | .int i, .int j => okIf (decide (0 ≤ j) && decide (j ≤ 1000000) && decide (i.natAbs < 18446744073709551616)) (.int (i ^ j.toNat)) S
    | _, _ => .bad

def isInfixB (a : List Nat) : List Nat → Bool
  | [] => a.isEmpty
  | c :: r => a.isPrefixOf (c :: r) || isInfixB a r

def lexLt : List Nat → List Nat → Bool
  | [], [] => false
  | [], _ :: _ => true
  | _ :: _, [] => false
  | a :: r, b :: t => if a < b then true else if b < a then false else lexLt r t

/-- flat values: what x in xs compares without a def -/
def D.flat : D → Bool
  | .non => true
  | .bl _ => true
  | .int _ => true
  | .str _ => true
  | _ => false
def memD (x : D) : List D → Bool
  | [] => false
  | d :: ds => D.eqv d x || memD x ds
def flatL : List D → Bool
  | [] => true
  | d :: ds => D.flat d && flatL ds

def vEq (x y : D) (S : Sto) : Option Bool :=
  match datOf S x, datOf S y with
  | some d, some e => some (D.eqv d e)
  | _, _ => none
def vIn (x y : D) (S : Sto) : Option Bool :=
  match y with
  | .str b => match x with
    | .str a => some (isInfixB a b)
    | _ => none
  | y => match seqOf S y with
    | some ys => if x.flat && flatL ys then some (memD x ys) else none
    | none => none
def isNon : D → Bool
  | .non => true
  | _ => false
def vCmp (o : CmpO) (x y : D) (S : Sto) : Out D :=
  match o with
  | .lt => match x, y with
    | .int i, .int j => .ok (.bl (decide (i < j))) S
    | .str a, .str b => .ok (.bl (lexLt a b)) S
    | _, _ => .bad
  | .gt => match x, y with
    | .int i, .int j => .ok (.bl (decide (j < i))) S
    | _, _ => .bad
  | .le => match x, y with
    | .int i, .int j => .ok (.bl (decide (i ≤ j))) S
    | _, _ => .bad
  | .ge => match x, y with
    | .int i, .int j => .ok (.bl (decide (j ≤ i))) S
    | _, _ => .bad
  | .is => if isNon y then .ok (.bl (isNon x)) S else .bad
  | .isn => if isNon y then .ok (.bl (!isNon x)) S else .bad
  | .eq => match vEq x y S with
    | some b => .ok (.bl b) S
    | none => .bad
  | .ne => match vEq x y S with
    | some b => .ok (.bl (!b)) S
    | none => .bad
  | .inn => match vIn x y S with
    | some b => .ok (.bl b) S
    | none => .bad
  | .nin => match vIn x y S with
    | some b => .ok (.bl (!b)) S
    | none => .bad

/-- where a number points in a sequence of n items -/
def place (i : Int) (n : Nat) : Option Nat :=
  if 0 ≤ i then (if i.toNat < n then some i.toNat else none)
  else if 0 ≤ i + n then some (i + n).toNat else none

def vIdx (x y : D) (S : Sto) : Out D :=
  match x, y with
  | .str a, .int i => match place i a.length with
    | some k => match a[k]? with
      | some c => .ok (.str [c]) S
      | none => .bad
    | none => .bad
  | x, .int i => match seqOf S x with
    | some xs => match place i xs.length with
      | some k => match xs[k]? with
        | some d => .ok d S
        | none => .bad
      | none => .bad
    | none => .bad
  | _, _ => .bad

/-- a bound of a slice, brought into 0 .. n -/
def clip (n : Nat) (dflt : Nat) : Option Int → Nat
  | none => dflt
  | some i => if 0 ≤ i then min i.toNat n else (i + n).toNat
def cut {α : Type} (xs : List α) (lo hi : Option Int) : List α :=
  let a := clip xs.length 0 lo
  let b := clip xs.length xs.length hi
  (xs.drop a).take (b - a)

def vSli (x : D) (lo hi : Option Int) (S : Sto) : Out D :=
  match x with
  | .str a => .ok (.str (cut a lo hi)) S
  | .frz xs => .ok (.lst ((cut xs lo hi).map D.int)) S
  | .tup xs => .ok (.tup (cut xs lo hi)) S
  | x => match lstOf S x with
    | some xs => .ok (.lst (cut xs lo hi)) S
    | none => .bad

def lenOf (S : Sto) : D → Option Nat
  | .str x => some x.length
  | d => (seqOf S d).map (·.length)

def bools : List D → Option (List Bool)
  | [] => some []
  | .bl b :: r => (bools r).map (b :: ·)
  | _ => none
def texts : List D → Option (List (List Nat))
  | [] => some []
  | .str x :: r => (texts r).map (x :: ·)
  | _ => none
def intL : List D → Option (List Int)
  | [] => some []
  | .int x :: r => (intL r).map (x :: ·)
  | _ => none

/-- a list is made: a value that stands, or a new cell -/
def mkList (mu : Bool) (xs : List D) (S : Sto) : Out D :=
  if xs.length ≤ line then (if mu then .ok (.ref S.length) (S ++ [.lst xs]) else .ok (.lst xs) S) else .bad

def vBi1 (mu : Bool) (b : Bi) (x : D) (S : Sto) : Out D :=
  match b with
  | .len => match lenOf S x with
    | some n => .ok (.int n) S
    | none => .bad
  | .all => match (lstOf S x).bind bools with
    | some bs => .ok (.bl (bs.all id)) S
    | none => .bad
  | .any => match (lstOf S x).bind bools with
    | some bs => .ok (.bl (bs.any id)) S
    | none => .bad
  | .int => match x with
    | .int i => .ok (.int i) S
    | .bl b => .ok (.int (b2i b)) S
    | _ => .bad
  | .list => match seqOf S x with
    | some ys => mkList mu ys S
    | none => .bad
  | .tuple => match seqOf S x with
    | some ys => .ok (.tup ys) S
    | none => .bad
  | _ => .bad
def vBi (mu : Bool) (b : Bi) (xs : List D) (S : Sto) : Out D :=
  match xs with
  | [x] => vBi1 mu b x S
  | _ => .bad

/-- the kind of a value, as a built-in class: 0 NoneType 1 bool 2 int 3 str 4 tuple 5 list 6 dict -/
def kindOf (S : Sto) : D → Option Nat
  | .non => some 0
  | .bl _ => some 1
  | .int _ => some 2
  | .str _ => some 3
  | .tup _ => some 4
  | .lst _ => some 5
  | .dct _ _ => some 6
  | .ref n => match S[n]? with
    | some (.lst _) => some 5
    | some (.dct _ _) => some 6
    | _ => none
  | _ => none
def kindIn (k t : Nat) : Bool := k == t || (k == 1 && t == 2)

def isInst (S : Sto) (x : D) : List D → Option Bool
  | [] => some false
  | .ty t :: r => match kindOf S x, isInst S x r with
    | some k, some b => if t < 7 then some (kindIn k t || b) else none
    | _, _ => none
  | _ => none

def joinT (s : List Nat) : List (List Nat) → List Nat
  | [] => []
  | [x] => x
  | x :: y :: r => x ++ s ++ joinT s (y :: r)
def sumLen : List (List Nat) → Nat
  | [] => 0
  | x :: r => x.length + sumLen r

def vJoin (o : D) (xs : List D) (S : Sto) : Out D :=
  match o, xs with
  | .str s, [x] => match (seqOf S x).bind texts with
    | some ts => okIf (decide (sumLen ts + ts.length * s.length ≤ line)) (.str (joinT s ts)) S
    | none => .bad
  | _, _ => .bad

/-- may v be stored in the cell b, where the regions begin at rs? -/
def fitsIn (rs : List Nat) (b : Nat) (v : D) : Bool := rs.all fun r => decide (r ≤ b) || v.lo r

def vAppend (rs : List Nat) (o : D) (xs : List D) (S : Sto) : Out D :=
  match o, xs with
  | .ref n, [x] => match S[n]? with
    | some (.lst ys) => if decide (ys.length < line) && fitsIn rs n x then .ok .non (S.set n (.lst (ys ++ [x]))) else .bad
    | _ => .bad
  | _, _ => .bad
def vBm (rs : List Nat) (b : Bm) (o : D) (xs : List D) (S : Sto) : Out D :=
  match b with
  | .join => vJoin o xs S
  | .append => vAppend rs o xs S

/-- the receiver is of the method's type -/
def bmOk (S : Sto) (b : Bm) (o : D) : Bool :=
  match b with
  | .join => match o with
    | .str _ => true
    | _ => false
  | .append => match o with
    | .ref n => match S[n]? with
      | some (.lst _) => true
      | _ => false
    | _ => false

/-! ### regions: what a call leaves -/
def frz1 (S : Sto) (m : Nat) : D → Option D
  | .ref n => if n < m then some (.ref n) else match S[n]? with
    | some (.lst xs) => if loL m xs then some (.lst xs) else none
    | some (.dct ks vs) => if loL m ks && loL m vs then some (.dct ks vs) else none
    | some (.obj c ns vs) => if loL m vs then some (.obj c ns vs) else none
    | none => none
  | d => if d.lo m then some d else none
def endCall (S0 : Sto) (o : Out D) : Out D :=
  match o with
  | .ok d S => match frz1 S S0.length d with
    | some d' => .ok d' (S.take S0.length)
    | none => .bad
  | .exc x S => if x.lo S0.length then .exc x (S.take S0.length) else .bad
  | .bad => .bad

/-! ### the evaluator -/
structure Cxt where
  /-- defs: the def's id, its arguments in the parameters' order, the regions, the store -/
  call : Nat → List D → List Nat → Sto → Out D
  /-- globals -/
  glob : Nat → Option D
  /-- a def's parameters and defaults -/
  pars : Nat → Option (List Nat × List D)

def lookN {α : Type} (x : Nat) : List Nat → List α → Option α
  | n :: ns, d :: ds => if n == x then some d else lookN x ns ds
  | _, _ => none
/-- the arguments in the parameters' order: positional ones, keywords, defaults (of the last parameters) -/
def bindA {α : Type} (dv : List α) : List Nat → List α → List Nat → List α → Option (List α)
  | [], [], _, _ => some []
  | [], _ :: _, _, _ => none
  | _ :: ps, a :: as, kn, ka => (bindA dv ps as kn ka).map (a :: ·)
  | p :: ps, [], kn, ka => match lookN p kn ka with
    | some d => (bindA dv ps [] kn ka).map (d :: ·)
    | none => if ps.length < dv.length then match dv[dv.length - (ps.length + 1)]? with
        | some d => (bindA dv ps [] kn ka).map (d :: ·)
        | none => none
      else none

/-- the slots of a comprehension's own names, forgotten -/
def wipeF (F : Fr) : List Nat → Fr
  | [] => F
  | v :: vs => (wipeF F vs).set v none
def Tgt.slots : Tgt → List Nat
  | .one i => [i]
  | .tup is => is
def setN (F : Fr) : List Nat → List D → Option Fr
  | [], [] => some F
  | i :: is, d :: ds => setN (F.set i (some d)) is ds
  | _, _ => none
def bindT (t : Tgt) (d : D) (F : Fr) : Option Fr :=
  match t with
  | .one i => some (F.set i (some d))
  | .tup is => match d with
    | .tup ds => setN F is ds
    | _ => none
def zipD : List D → List D → List D
  | x :: xs, y :: ys => .tup [x, y] :: zipD xs ys
  | _, _ => []
def enumD (k : Nat) : List D → List D
  | [] => []
  | x :: xs => .tup [.int k, x] :: enumD (k + 1) xs
def rangeD (a : Int) : Nat → List D
  | 0 => []
  | n + 1 => .int a :: rangeD (a + 1) n

/-- what is walked: items that stand, or a cell whose list has k items -/
inductive Src where
  | items (xs : List D)
  | cell (n k : Nat)
def Src.len : Src → Nat
  | .items xs => xs.length
  | .cell _ k => k
/-- the item at i, as it stands now: none at the end -/
def srcAt (S : Sto) (s : Src) (i : Nat) : Option (Option D) :=
  match s with
  | .items xs => some xs[i]?
  | .cell n k => match S[n]? with
    | some (.lst ys) => if ys.length = k then some ys[i]? else none
    | _ => none
def iterOf (S : Sto) : D → Option Src
  | .str x => some (.items (x.map fun c => .str [c]))
  | .tup xs => some (.items xs)
  | .lst xs => some (.items xs)
  | .ref n => match S[n]? with
    | some (.lst ys) => some (.cell n ys.length)
    | _ => none
  | _ => none

/-- what lets no exception out -/
def nox {α : Type} : Out α → Out α
  | .exc _ _ => .bad
  | o => o
/-- the turns of a comprehension: m turns from the i-th on, ys made so far -/
def turns (f : D → Sto → Out (List D)) (s : Src) : Nat → Nat → List D → Sto → Out (List D)
  | 0, i, ys, S => match srcAt S s i with
    | some none => .ok ys S
    | _ => .bad
  | m + 1, i, ys, S => match srcAt S s i with
    | some (some d) => (nox (f d S)).bind fun zs S1 => turns f s m (i + 1) (ys ++ zs) S1
    | _ => .bad

def ownOf : List Gen → List Nat
  | [] => []
  | .mk t _ _ :: gs => t.slots ++ ownOf gs

mutual
def ev (X : Cxt) (rs : List Nat) : CE → Fr → Sto → Out D
  | .slot i, F, S => match F[i]? with
    | some (some d) => .ok d S
    | _ => .bad
  | .cst d, _, S => .ok d S
  | .glo g, _, S => match X.glob g with
    | some d => .ok d S
    | none => .bad
  | .bin o a b, F, S => (ev X rs a F S).bind fun x S1 => (ev X rs b F S1).bind fun y S2 => vBin o x y S2
  | .neg a, F, S => (ev X rs a F S).bind fun x S1 => match x with
    | .int i => .ok (.int (-i)) S1
    | _ => .bad
  | .cmp o a b, F, S => (ev X rs a F S).bind fun x S1 => (ev X rs b F S1).bind fun y S2 => vCmp o x y S2
  | .chain o o' a b c, F, S => (ev X rs a F S).bind fun x S1 => (ev X rs b F S1).bind fun y S2 => (vCmp o x y S2).bind fun t S3 => match t with
    | .bl true => (ev X rs c F S3).bind fun z S4 => vCmp o' y z S4
    | .bl false => .ok (.bl false) S3
    | _ => .bad
  | .bop k es, F, S => evB X rs k es F S
  | .not a, F, S => (ev X rs a F S).bind fun x S1 => match truth S1 x with
    | some b => .ok (.bl (!b)) S1
    | none => .bad
  | .ite c a b, F, S => (ev X rs c F S).bind fun x S1 => match truth S1 x with
    | some true => ev X rs a F S1
    | some false => ev X rs b F S1
    | none => .bad
  | .call kp f as kn ka, F, S => (evL X rs as F S).bind fun xs S1 => (evL X rs ka F S1).bind fun zs S2 => match X.pars f with
    | some (ps, dv) => match bindA dv ps xs kn zs with
      | some vs => if kp then X.call f vs rs S2 else endCall S2 (X.call f vs (S2.length :: rs) S2)
      | none => .bad
    | none => .bad
  | .bcall mu b as, F, S => (evL X rs as F S).bind fun xs S1 => vBi mu b xs S1
  | .isin a ts, F, S => (ev X rs a F S).bind fun x S1 => (evL X rs ts F S1).bind fun zs S2 => match isInst S2 x zs with
    | some b => .ok (.bl b) S2
    | none => .bad
  | .bmeth b o as, F, S => (ev X rs o F S).bind fun x S1 => if bmOk S1 b x then (evL X rs as F S1).bind fun xs S2 => vBm rs b x xs S2 else .bad
  | .meth _ _ _ _ _ _, _, _ => .bad
  | .attr _ _, _, _ => .bad
  | .idx a b, F, S => (ev X rs a F S).bind fun x S1 => (ev X rs b F S1).bind fun y S2 => vIdx x y S2
  | .sli a lo hi, F, S => (ev X rs a F S).bind fun x S1 => (evO X rs lo F S1).bind fun l S2 => (evO X rs hi F S2).bind fun h S3 => vSli x l h S3
  | .tup es, F, S => (evL X rs es F S).bind fun xs S1 => okIf (decide (xs.length ≤ line)) (.tup xs) S1
  | .lst mu es, F, S => (evL X rs es F S).bind fun xs S1 => mkList mu xs S1
  | .comp mu e gs, F, S => (evG X rs (ev X rs e) gs F (wipeF F (ownOf gs)) S).bind fun xs S1 => mkList mu xs S1
def evB (X : Cxt) (rs : List Nat) (k : Bool) : List CE → Fr → Sto → Out D
  | [], _, _ => .bad
  | [a], F, S => ev X rs a F S
  | a :: b :: r, F, S => (ev X rs a F S).bind fun x S1 => match truth S1 x with
    | some t => if t == k then evB X rs k (b :: r) F S1 else .ok x S1
    | none => .bad
def evL (X : Cxt) (rs : List Nat) : List CE → Fr → Sto → Out (List D)
  | [], _, S => .ok [] S
  | e :: es, F, S => (ev X rs e F S).bind fun x S1 => (evL X rs es F S1).bind fun xs S2 => .ok (x :: xs) S2
def evO (X : Cxt) (rs : List Nat) : List CE → Fr → Sto → Out (Option Int)
  | [], _, S => .ok none S
  | e :: _, F, S => (ev X rs e F S).bind fun x S1 => match x with
    | .int i => .ok (some i) S1
    | _ => .bad
/-- the tests of a clause -/
def evT (X : Cxt) (rs : List Nat) : List CE → Fr → Sto → Out Bool
  | [], _, S => .ok true S
  | e :: es, F, S => (ev X rs e F S).bind fun x S1 => match truth S1 x with
    | some true => evT X rs es F S1
    | some false => .ok false S1
    | none => .bad
def evI (X : Cxt) (rs : List Nat) : IT → Fr → Sto → Out Src
  | .ov e, F, S => (ev X rs e F S).bind fun x S1 => match iterOf S1 x with
    | some s => .ok s S1
    | none => .bad
  | .rng1 b, F, S => (ev X rs b F S).bind fun y S2 => match y with
    | .int j => if decide (-4611686018427387904 ≤ j) && decide (j < 4611686018427387904) then .ok (.items (rangeD 0 j.toNat)) S2 else .bad
    | _ => .bad
  | .rng a b, F, S => (ev X rs a F S).bind fun x S1 => (ev X rs b F S1).bind fun y S2 => match x, y with
    | .int i, .int j => if decide (-4611686018427387904 ≤ i) && decide (i < 4611686018427387904) && decide (-4611686018427387904 ≤ j) && decide (j < 4611686018427387904) then .ok (.items (rangeD i (j - i).toNat)) S2 else .bad
    | _, _ => .bad
  | .zip a b, F, S => (ev X rs a F S).bind fun x S1 => (ev X rs b F S1).bind fun y S2 => match x, y with
    | .lst xs, .lst ys => .ok (.items (zipD xs ys)) S2
    | .tup xs, .tup ys => .ok (.items (zipD xs ys)) S2
    | _, _ => .bad
  | .enm a, F, S => (ev X rs a F S).bind fun x S1 => match x with
    | .lst xs => .ok (.items (enumD 0 xs)) S1
    | _ => .bad
def evG (X : Cxt) (rs : List Nat) (e : Fr → Sto → Out D) : List Gen → Fr → Fr → Sto → Out (List D)
  | [], _, F, S => (e F S).bind fun x S1 => .ok [x] S1
  | .mk t it ifs :: gs, Fi, F, S => (evI X rs it Fi S).bind fun s S1 => turns (fun x S2 => match bindT t x F with
      | some F2 => (evT X rs ifs F2 S2).bind fun b S3 => if b then evG X rs e gs F2 F2 S3 else .ok [] S3
      | none => .bad) s s.len 0 [] S1
end

end OM
set_option Elab.async false
set_option linter.all false
set_option maxRecDepth 100000
/-! OmRep: what stands for abstract data in the layer's heap. -/
namespace OM
open PySem PySem.Spec PyProof.Rows L2

structure RP where
  K : PySem.W.Frag
  fadr : Nat → Addr
  cadr : Nat → Addr
  an : Nat → Str
  /-- lists that are being made: nothing names them -/
  hid : List Addr
abbrev RP.h (R : RP) (l : List Addr) : RP := { R with hid := l }
/-- neither a cell nor being made -/
def Fre (R : RP) (r : List Addr) (a : Addr) : Prop := a ∉ r ∧ a ∉ R.hid

def tyN : Nat → String
  | 0 => "NoneType"
  | 1 => "bool"
  | 2 => "int"
  | 3 => "str"
  | 4 => "tuple"
  | 5 => "list"
  | 6 => "dict"
  | _ => "object"

def mkS (x : List Nat) : Str := ⟨x.toArray⟩

def KT (K : PySem.W.Frag) (a : Addr) (xs : List V) : Prop :=
  ∃ (o : Obj) (its : Array Value) (n : Nat), K.lookup a = some o ∧ o.cls = .type "tuple" ∧ o.data = .seq its n ∧ its.size ≤ sizeLine ∧ Vals xs its.toList
def KL (K : PySem.W.Frag) (a : Addr) (xs : List V) : Prop :=
  ∃ (o : Obj) (its : Array Value) (n : Nat), K.lookup a = some o ∧ o.cls = .type "list" ∧ o.dict = none ∧ o.data = .seq its n ∧ its.size ≤ sizeLine ∧ Vals xs its.toList
def FzT (R : RP) (r : List Addr) (H : Hp) (a : Addr) (xs : List V) : Prop := (Rd H a (.tup xs) ∧ Fre R r a) ∨ KT R.K a xs
def FzL (R : RP) (r : List Addr) (H : Hp) (a : Addr) (xs : List V) : Prop := (Rd H a (.lst xs) ∧ Fre R r a) ∨ KL R.K a xs
theorem FzT.sq {R : RP} {r : List Addr} {H : Hp} {a : Addr} {xs : List V} (h : FzT R r H a xs) : SqT R.K H a xs :=
  h.elim (fun z => .inl z.1) .inr
theorem FzL.sq {R : RP} {r : List Addr} {H : Hp} {a : Addr} {xs : List V} (h : FzL R r H a xs) : SqL R.K H a xs :=
  h.elim (fun z => .inl z.1) .inr

mutual
inductive Rep (R : RP) (r : List Addr) (H : Hp) : D → V → Prop where
  | non : Rep R r H .non .non
  | bl (b : Bool) : Rep R r H (.bl b) (.bl b)
  | int (i : Int) : Rep R r H (.int i) (.int i)
  | str {x : List Nat} : okS x = true → Rep R r H (.str x) (.str (mkS x))
  | tup {a : Addr} {ds : List D} {vs : List V} : FzT R r H a vs → Reps R r H ds vs → Rep R r H (.tup ds) (.ref a)
  | lst {a : Addr} {ds : List D} {vs : List V} : H a = some (.lst vs) → Fre R r a → Reps R r H ds vs → Rep R r H (.lst ds) (.ref a)
  | frz {a : Addr} {xs : List Int} : FzL R r H a (xs.map V.int) → Rep R r H (.frz xs) (.ref a)
  | obj {a dx : Addr} {c : Nat} {ns : List Nat} {ds : List D} {fs : List (Str × V)} : H a = some (.ins (R.cadr c) dx fs) → Fre R r a → fs.map (·.1) = ns.map R.an → Reps R r H ds (fs.map (·.2)) → Rep R r H (.obj c ns ds) (.ref a)
  | ref {n : Nat} {a : Addr} : r[n]? = some a → Rep R r H (.ref n) (.ref a)
  | fn (k : Nat) : Rep R r H (.fn k) (.ref (R.fadr k))
  | cls (k : Nat) : Rep R r H (.cls k) (.ref (R.cadr k))
  | ty (k : Nat) : Rep R r H (.ty k) (.ty (tyN k))
inductive Reps (R : RP) (r : List Addr) (H : Hp) : List D → List V → Prop where
  | nil : Reps R r H [] []
  | cons {d : D} {v : V} {ds : List D} {vs : List V} : Rep R r H d v → Reps R r H ds vs → Reps R r H (d :: ds) (v :: vs)
end

/-- from one state of the heap and the store to a later one -/
structure Ext (r : List Addr) (H : Hp) (r' : List Addr) (H' : Hp) : Prop where
  old : ∀ n, n < r.length → r'[n]? = r[n]?
  keep : ∀ a o, H a = some o → a ∉ r → H' a = some o
  new : ∀ a, a ∈ r' → a ∈ r ∨ H a = none
theorem Ext.refl (r : List Addr) (H : Hp) : Ext r H r H := ⟨fun _ _ => rfl, fun _ _ e _ => e, fun _ h => .inl h⟩
theorem Ext.notin {r r' : List Addr} {H H' : Hp} (e : Ext r H r' H') {a : Addr} {o : HO} (h : H a = some o) (n : a ∉ r) : a ∉ r' := fun z => by
  rcases e.new a z with q | q
  · exact n q
  · rw [h] at q; cases q
theorem Ext.len {r r' : List Addr} {H H' : Hp} (e : Ext r H r' H') : r.length ≤ r'.length := by
  cases h : r.length with
  | zero => exact Nat.zero_le _
  | succ k =>
    have q := e.old k (by omega)
    have h1 : k < r.length := by omega
    rw [List.getElem?_eq_getElem h1] at q
    have := (List.getElem?_eq_some_iff.mp q).1
    omega
theorem Ext.mem {r r' : List Addr} {H H' : Hp} (e : Ext r H r' H') {a : Addr} (h : a ∈ r) : a ∈ r' := by
  obtain ⟨n, hn, rfl⟩ := List.getElem_of_mem h
  have q := e.old n hn
  rw [List.getElem?_eq_getElem hn] at q
  exact List.mem_of_getElem? q
theorem Ext.trans {r r1 r2 : List Addr} {H H1 H2 : Hp} (a : Ext r H r1 H1) (b : Ext r1 H1 r2 H2) : Ext r H r2 H2 where
  old := fun n h => (b.old n (Nat.lt_of_lt_of_le h a.len)).trans (a.old n h)
  keep := fun c o h n => b.keep c o (a.keep c o h n) (a.notin h n)
  new := fun c h => by
    rcases b.new c h with q | q
    · exact a.new c q
    · by_cases hc : c ∈ r
      · exact .inl hc
      · cases e : H c with
        | none => exact .inr rfl
        | some o => rw [a.keep c o e hc] at q; cases q

section
variable {R : RP} {r r' : List Addr} {H H' : Hp}
theorem Ext.fre {a : Addr} {o : HO} (e : Ext r H r' H') (h : H a = some o) (n : Fre R r a) : Fre R r' a := ⟨e.notin h n.1, n.2⟩
theorem FzT.ext {a : Addr} {xs : List V} (h : FzT R r H a xs) (e : Ext r H r' H') : FzT R r' H' a xs := by
  rcases h with ⟨h | ⟨o, h⟩, n⟩ | h
  · exact .inl ⟨.inl (e.keep _ _ h n.1), e.fre h n⟩
  · exact .inl ⟨.inr ⟨o, e.keep _ _ h n.1⟩, e.fre h n⟩
  · exact .inr h
theorem FzL.ext {a : Addr} {xs : List V} (h : FzL R r H a xs) (e : Ext r H r' H') : FzL R r' H' a xs := by
  rcases h with ⟨h | ⟨o, h⟩, n⟩ | h
  · exact .inl ⟨.inl (e.keep _ _ h n.1), e.fre h n⟩
  · exact .inl ⟨.inr ⟨o, e.keep _ _ h n.1⟩, e.fre h n⟩
  · exact .inr h
mutual
theorem Rep.ext : ∀ {d : D} {v : V}, Rep R r H d v → Ext r H r' H' → Rep R r' H' d v
  | _, _, .non, _ => .non
  | _, _, .bl b, _ => .bl b
  | _, _, .int i, _ => .int i
  | _, _, .str x, _ => .str x
  | _, _, .tup f h, e => .tup (f.ext e) (Reps.ext h e)
  | _, _, .lst q n h, e => .lst (e.keep _ _ q n.1) (e.fre q n) (Reps.ext h e)
  | _, _, .frz f, e => .frz (f.ext e)
  | _, _, .obj q n m h, e => .obj (e.keep _ _ q n.1) (e.fre q n) m (Reps.ext h e)
  | _, _, .ref h, e => .ref ((e.old _ (List.getElem?_eq_some_iff.mp h).1).trans h)
  | _, _, .fn k, _ => .fn k
  | _, _, .cls k, _ => .cls k
  | _, _, .ty k, _ => .ty k
theorem Reps.ext : ∀ {ds : List D} {vs : List V}, Reps R r H ds vs → Ext r H r' H' → Reps R r' H' ds vs
  | _, _, .nil, _ => .nil
  | _, _, .cons h t, e => .cons (h.ext e) (Reps.ext t e)
end
mutual
theorem Rep.low : ∀ {d : D} {v : V}, Rep R r H d v → d.lo r.length = true
  | _, _, .non => rfl
  | _, _, .bl b => rfl
  | _, _, .int i => rfl
  | _, _, .str x => rfl
  | _, _, .tup f h => by unfold D.lo; exact Reps.low h
  | _, _, .lst q n h => by unfold D.lo; exact Reps.low h
  | _, _, .frz f => rfl
  | _, _, .obj q n m h => by unfold D.lo; exact Reps.low h
  | _, _, .ref h => by unfold D.lo; exact decide_eq_true (List.getElem?_eq_some_iff.mp h).1
  | _, _, .fn k => rfl
  | _, _, .cls k => rfl
  | _, _, .ty k => rfl
theorem Reps.low : ∀ {ds : List D} {vs : List V}, Reps R r H ds vs → loL r.length ds = true
  | _, _, .nil => rfl
  | _, _, .cons h t => by unfold loL; rw [h.low, Reps.low t]; rfl
end
/-- cells beyond m are forgotten -/
theorem nin_take {m : Nat} {a : Addr} (h : a ∉ r) : a ∉ r.take m := fun z => h (List.mem_of_mem_take z)
theorem Fre.take {m : Nat} {a : Addr} (h : Fre R r a) : Fre R (r.take m) a := ⟨nin_take h.1, h.2⟩
mutual
theorem Rep.take (m : Nat) : ∀ {d : D} {v : V}, Rep R r H d v → d.lo m = true → Rep R (r.take m) H d v
  | _, _, .non, _ => .non
  | _, _, .bl b, _ => .bl b
  | _, _, .int i, _ => .int i
  | _, _, .str x, _ => .str x
  | _, _, .tup f h, l => .tup (f.elim (fun z => .inl ⟨z.1, z.2.take⟩) .inr) (Reps.take m h (by unfold D.lo at l; exact l))
  | _, _, .lst q n h, l => .lst q n.take (Reps.take m h (by unfold D.lo at l; exact l))
  | _, _, .frz f, _ => .frz (f.elim (fun z => .inl ⟨z.1, z.2.take⟩) .inr)
  | _, _, .obj q n k h, l => .obj q n.take k (Reps.take m h (by unfold D.lo at l; exact l))
  | _, _, .ref h, l => .ref (by
      unfold D.lo at l
      have l := of_decide_eq_true l
      rw [List.getElem?_take_of_lt l]; exact h)
  | _, _, .fn k, _ => .fn k
  | _, _, .cls k, _ => .cls k
  | _, _, .ty k, _ => .ty k
theorem Reps.take (m : Nat) : ∀ {ds : List D} {vs : List V}, Reps R r H ds vs → loL m ds = true → Reps R (r.take m) H ds vs
  | _, _, .nil, _ => .nil
  | _, _, .cons h t, l => by
    unfold loL at l
    rw [Bool.and_eq_true] at l
    exact .cons (h.take m l.1) (Reps.take m t l.2)
end
theorem Reps.length : ∀ {ds : List D} {vs : List V}, Reps R r H ds vs → ds.length = vs.length
  | _, _, .nil => rfl
  | _, _, .cons _ t => by rw [List.length_cons, List.length_cons, Reps.length t]
theorem Reps.get : ∀ {ds : List D} {vs : List V} {i : Nat} {d : D}, Reps R r H ds vs → ds[i]? = some d → ∃ v, vs[i]? = some v ∧ Rep R r H d v
  | _, _, _, _, .nil, e => by simp at e
  | _, _, 0, _, .cons h _, e => by simp at e; subst e; exact ⟨_, rfl, h⟩
  | _, _, i + 1, _, .cons _ t, e => by
    obtain ⟨v, q, h⟩ := Reps.get (i := i) t (by simpa using e)
    exact ⟨v, by simpa using q, h⟩
theorem Reps.append : ∀ {ds es : List D} {vs us : List V}, Reps R r H ds vs → Reps R r H es us → Reps R r H (ds ++ es) (vs ++ us)
  | _, _, _, _, .nil, s => s
  | _, _, _, _, .cons h t, s => .cons h (Reps.append t s)
theorem Reps.drop : ∀ {ds : List D} {vs : List V} (n : Nat), Reps R r H ds vs → Reps R r H (ds.drop n) (vs.drop n)
  | _, _, 0, h => h
  | _, _, _ + 1, .nil => .nil
  | _, _, n + 1, .cons _ t => Reps.drop n t
theorem Reps.takeL : ∀ {ds : List D} {vs : List V} (n : Nat), Reps R r H ds vs → Reps R r H (ds.take n) (vs.take n)
  | _, _, 0, _ => .nil
  | _, _, _ + 1, .nil => .nil
  | _, _, n + 1, .cons h t => .cons h (Reps.takeL n t)
theorem Reps.set : ∀ {ds : List D} {vs : List V} (i : Nat) {d : D} {v : V}, Reps R r H ds vs → Rep R r H d v → Reps R r H (ds.set i d) (vs.set i v)
  | _, _, _, _, _, .nil, _ => .nil
  | _, _, 0, _, _, .cons _ t, q => .cons q t
  | _, _, i + 1, _, _, .cons h t, q => .cons h (Reps.set i t q)
end

/-- what a cell holds -/
inductive RepC (R : RP) (r : List Addr) (H : Hp) : Cell → HO → Prop where
  | lst {ds : List D} {vs : List V} : Reps R r H ds vs → RepC R r H (.lst ds) (.lst vs)
  | obj {c : Nat} {dx : Addr} {ns : List Nat} {ds : List D} {fs : List (Str × V)} : fs.map (·.1) = ns.map R.an → Reps R r H ds (fs.map (·.2)) → RepC R r H (.obj c ns ds) (.ins (R.cadr c) dx fs)
def Cell.lo (m : Nat) : Cell → Bool
  | .lst xs => loL m xs
  | .dct ks vs => loL m ks && loL m vs
  | .obj _ _ vs => loL m vs
theorem RepC.ext {R : RP} {r r' : List Addr} {H H' : Hp} {c : Cell} {o : HO} (h : RepC R r H c o) (e : Ext r H r' H') : RepC R r' H' c o := by
  cases h with
  | lst h => exact .lst (h.ext e)
  | obj m h => exact .obj m (h.ext e)
theorem RepC.take {R : RP} {r : List Addr} {H : Hp} {c : Cell} {o : HO} (m : Nat) (h : RepC R r H c o) (l : c.lo m = true) : RepC R (r.take m) H c o := by
  cases h with
  | lst h => exact .lst (h.take m l)
  | obj k h => exact .obj k (h.take m l)

structure RS (R : RP) (rs : List Nat) (r : List Addr) (S : Sto) (H : Hp) : Prop where
  len : r.length = S.length
  nd : r.Nodup
  cell : ∀ (n : Nat) (c : Cell), S[n]? = some c → ∃ a o, r[n]? = some a ∧ H a = some o ∧ RepC R r H c o
  reg : ∀ m ∈ rs, m ≤ S.length ∧ ∀ (n : Nat) (c : Cell), n < m → S[n]? = some c → c.lo m = true
  hd : ∀ a ∈ R.hid, a ∉ r ∧ ∃ o, H a = some o
structure RF (R : RP) (r : List Addr) (H : Hp) (F : Fr) (st : L2.St) : Prop where
  len : F.length = st.length
  at_ : ∀ (i : Nat) (d : D), F[i]? = some (some d) → ∃ v, st[i]? = some (some v) ∧ Rep R r H d v
theorem RF.ext {R : RP} {r r' : List Addr} {H H' : Hp} {F : Fr} {st : L2.St} (h : RF R r H F st) (e : Ext r H r' H') : RF R r' H' F st :=
  ⟨h.len, fun i d q => let ⟨v, a, b⟩ := h.at_ i d q; ⟨v, a, b.ext e⟩⟩
theorem RF.set {R : RP} {r : List Addr} {H : Hp} {F : Fr} {st : L2.St} {i : Nat} {d : D} {v : V} (h : RF R r H F st) (q : Rep R r H d v) : RF R r H (F.set i (some d)) (st.set i (some v)) := by
  refine ⟨by simp [h.len], fun j e x => ?_⟩
  by_cases hj : i = j
  · subst hj
    by_cases hi : i < F.length
    · rw [List.getElem?_set_self hi] at x
      cases x
      exact ⟨v, List.getElem?_set_self (by rw [← h.len]; exact hi), q⟩
    · rw [List.getElem?_eq_none (by simpa using hi)] at x; cases x
  · rw [List.getElem?_set_ne hj] at x ⊢
    exact h.at_ j e x

theorem Reps.mapInt {R : RP} {r : List Addr} {H : Hp} : ∀ (xs : List Int), Reps R r H (xs.map D.int) (xs.map V.int)
  | [] => .nil
  | x :: xs => .cons (.int x) (Reps.mapInt xs)
section
variable {R : RP} {rs : List Nat} {r : List Addr} {S : Sto} {H : Hp}
theorem RS.some_of (h : RS R rs r S H) {a : Addr} (m : a ∈ r) : ∃ o, H a = some o := by
  obtain ⟨n, hn, rfl⟩ := List.getElem_of_mem m
  have hs : n < S.length := by rw [← h.len]; exact hn
  obtain ⟨a, o, e, q, _⟩ := h.cell n S[n] (List.getElem?_eq_getElem hs)
  rw [List.getElem?_eq_getElem hn] at e
  cases e
  exact ⟨o, q⟩
theorem RS.nin (h : RS R rs r S H) {p : Addr} (n : H p = none) : p ∉ r := fun m => by
  obtain ⟨o, q⟩ := h.some_of m
  rw [n] at q; cases q
theorem Ext.fresh {p : Addr} {o : HO} (n : H p = none) : Ext r H r (upd H p o) :=
  ⟨fun _ _ => rfl, fun a u q _ => by rw [upd_ne (ne_of_none q n)]; exact q, fun _ m => .inl m⟩
theorem RS.fresh {p : Addr} {o : HO} (h : RS R rs r S H) (n : H p = none) : RS R rs r S (upd H p o) :=
  ⟨h.len, h.nd, fun k c q => by
    obtain ⟨a, u, e, x, y⟩ := h.cell k c q
    exact ⟨a, u, e, by rw [upd_ne (ne_of_none x n)]; exact x, y.ext (.fresh n)⟩, h.reg, fun a m => by
    obtain ⟨h1, o', h2⟩ := h.hd a m
    exact ⟨h1, o', by rw [upd_ne (ne_of_none h2 n)]; exact h2⟩⟩
theorem Ext.push {p : Addr} {o : HO} (n : H p = none) : Ext r H (r ++ [p]) (upd H p o) :=
  ⟨fun k hk => by rw [List.getElem?_append_left hk], fun a u q _ => by rw [upd_ne (ne_of_none q n)]; exact q, fun a m => by
    rcases List.mem_append.mp m with m | m
    · exact .inl m
    · rw [List.mem_singleton] at m; subst m; exact .inr n⟩
theorem RS.push {p : Addr} {o : HO} {c : Cell} (h : RS R rs r S H) (n : H p = none) (q : RepC R (r ++ [p]) (upd H p o) c o) : RS R rs (r ++ [p]) (S ++ [c]) (upd H p o) := by
  refine ⟨by simp [h.len], ?_, fun k d e => ?_, fun m hm => ?_, fun a m => by
    obtain ⟨h1, o', h2⟩ := h.hd a m
    refine ⟨fun z => ?_, o', by rw [upd_ne (ne_of_none h2 n)]; exact h2⟩
    rcases List.mem_append.mp z with z | z
    · exact h1 z
    · rw [List.mem_singleton] at z
      subst z
      rw [n] at h2; cases h2⟩
  · rw [List.nodup_append]
    refine ⟨h.nd, by simp, fun a ha b hb => ?_⟩
    rw [List.mem_singleton] at hb
    subst hb
    exact fun z => h.nin n (z ▸ ha)
  · by_cases hk : k < S.length
    · rw [List.getElem?_append_left hk] at e
      obtain ⟨a, u, e1, x, y⟩ := h.cell k d e
      exact ⟨a, u, by rw [List.getElem?_append_left (by rw [h.len]; exact hk)]; exact e1, by rw [upd_ne (ne_of_none x n)]; exact x, y.ext (.push n)⟩
    · rw [List.getElem?_append_right (by omega)] at e
      have hz : k - S.length = 0 := by
        have := (List.getElem?_eq_some_iff.mp e).1
        simp at this
        omega
      rw [hz] at e
      cases e
      refine ⟨p, o, ?_, upd_same, q⟩
      rw [List.getElem?_append_right (by rw [h.len]; omega), h.len, hz]
      rfl
  · obtain ⟨h1, h2⟩ := h.reg m hm
    refine ⟨by simp; omega, fun k d hk e => ?_⟩
    rw [List.getElem?_append_left (by omega)] at e
    exact h2 k d hk e
theorem Ext.write {a : Addr} {o : HO} (m : a ∈ r) : Ext r H r (upd H a o) :=
  ⟨fun _ _ => rfl, fun b u q n => by rw [upd_ne (fun z => by subst z; exact n m)]; exact q, fun _ m => .inl m⟩
theorem RS.write {a : Addr} {o : HO} {c : Cell} {n : Nat} (h : RS R rs r S H) (e : r[n]? = some a) (q : RepC R r (upd H a o) c o) (hr : ∀ m ∈ rs, n < m → c.lo m = true) : RS R rs r (S.set n c) (upd H a o) := by
  have hm : a ∈ r := List.mem_of_getElem? e
  refine ⟨by simp [h.len], h.nd, fun k d x => ?_, fun m hm => ?_, fun b m => by
    obtain ⟨h1, o', h2⟩ := h.hd b m
    exact ⟨h1, o', by rw [upd_ne (fun z => by subst z; exact h1 hm)]; exact h2⟩⟩
  · by_cases hk : n = k
    · subst hk
      by_cases hi : n < S.length
      · rw [List.getElem?_set_self hi] at x
        cases x
        exact ⟨a, o, e, upd_same, q⟩
      · rw [List.getElem?_eq_none (by simpa using hi)] at x; cases x
    · rw [List.getElem?_set_ne hk] at x
      obtain ⟨b, u, e1, y, z⟩ := h.cell k d x
      refine ⟨b, u, e1, ?_, z.ext (.write hm)⟩
      rw [upd_ne ?_]
      · exact y
      · intro w
        subst w
        obtain ⟨h1, g1⟩ := List.getElem?_eq_some_iff.mp e
        obtain ⟨h2, g2⟩ := List.getElem?_eq_some_iff.mp e1
        exact hk ((List.getElem_inj h.nd).mp (g1.trans g2.symm))
  · obtain ⟨h1, h2⟩ := h.reg m hm
    refine ⟨by simpa using h1, fun k d hk x => ?_⟩
    by_cases he : n = k
    · subst he
      by_cases hi : n < S.length
      · rw [List.getElem?_set_self hi] at x
        cases x
        exact hr m hm hk
      · rw [List.getElem?_eq_none (by simpa using hi)] at x; cases x
    · rw [List.getElem?_set_ne he] at x
      exact h2 k d hk x
theorem RS.fre (h : RS R rs r S H) {p : Addr} (n : H p = none) : Fre R r p := ⟨h.nin n, fun m => by
  obtain ⟨_, o, q⟩ := h.hd p m
  rw [n] at q; cases q⟩
/-- the cell n, as it stands -/
theorem RS.at (h : RS R rs r S H) {n : Nat} {a : Addr} (e : r[n]? = some a) : ∃ c o, S[n]? = some c ∧ H a = some o ∧ RepC R r H c o := by
  have hn : n < S.length := by rw [← h.len]; exact (List.getElem?_eq_some_iff.mp e).1
  obtain ⟨b, o, e1, x, y⟩ := h.cell n S[n] (List.getElem?_eq_getElem hn)
  rw [e] at e1
  cases e1
  exact ⟨_, o, List.getElem?_eq_getElem hn, x, y⟩
end

/-- an exception as it flies -/
def RepX (R : RP) (r : List Addr) (H : Hp) (x : D) (cls : Value) (dd : Option Addr) : Prop :=
  ∃ (c : Nat) (ns : List Nat) (ds : List D) (dx : Addr) (fs : List (Str × V)), x = .exc c ns ds ∧ cls = .ref (R.cadr c) ∧ dd = some dx ∧ H dx = some (.xd fs) ∧ dx ∉ r ∧ fs.map (·.1) = ns.map R.an ∧ Reps R r H ds (fs.map (·.2))

/-- what is wanted behind an outcome -/
def Sat {α β : Type} (R : RP) (W : WX) (rs : List Nat) (st : L2.St) (r : List Addr) (H : Hp) (Rel : List Addr → Hp → α → β → Prop) (o : Out α) (Q : β → Hp → Prop) : Prop :=
  match o with
  | .ok d S' => ∀ r' H' v, Ext r H r' H' → RS R rs r' S' H' → Rel r' H' d v → Q v H'
  | .exc x S' => ∀ r' H' cls dd, Ext r H r' H' → RS R rs r' S' H' → RepX R r' H' x cls dd → W cls dd st H'
  | .bad => False
theorem Sat.shift {α β : Type} {R : RP} {W : WX} {rs : List Nat} {st : L2.St} {r r1 : List Addr} {H H1 : Hp} {Rel : List Addr → Hp → α → β → Prop} {o : Out α} {Q : β → Hp → Prop} (e : Ext r H r1 H1) (h : Sat R W rs st r H Rel o Q) : Sat R W rs st r1 H1 Rel o Q := by
  cases o with
  | ok d S' => exact fun r' H' v e' => h r' H' v (e.trans e')
  | exc x S' => exact fun r' H' c d e' => h r' H' c d (e.trans e')
  | bad => exact h
/-- a reading, from the evaluator -/
def tG {α β : Type} (R : RP) (W : WX) (rs : List Nat) (Rel : List Addr → Hp → α → β → Prop) (g : Fr → Sto → Out α) : L2.St → Hp → (β → Hp → Prop) → Prop :=
  fun st H Q => ∃ r F S, RS R rs r S H ∧ RF R r H F st ∧ Sat R W rs st r H Rel (g F S) Q
theorem bindG {α β γ δ : Type} {R : RP} {W : WX} {rs : List Nat} {st : L2.St} {r : List Addr} {H : Hp} {S : Sto} {F : Fr} {Rel : List Addr → Hp → α → β → Prop} {Rel' : List Addr → Hp → γ → δ → Prop} {g : Fr → Sto → Out α} {f : α → Sto → Out γ} {Q : δ → Hp → Prop} {Q1 : β → Hp → Prop}
    (h : RS R rs r S H) (hF : RF R r H F st) (hs : Sat R W rs st r H Rel' ((g F S).bind f) Q)
    (k : ∀ r1 S1 H1 a x, Ext r H r1 H1 → RS R rs r1 S1 H1 → RF R r1 H1 F st → Rel r1 H1 a x → Sat R W rs st r1 H1 Rel' (f a S1) Q → Q1 x H1) : tG R W rs Rel g st H Q1 := by
  refine ⟨r, F, S, h, hF, ?_⟩
  cases e : g F S with
  | ok a S1 =>
    rw [e] at hs
    exact fun r1 H1 x e1 h1 rx => k r1 S1 H1 a x e1 h1 (hF.ext e1) rx (Sat.shift e1 hs)
  | exc x S1 => rw [e] at hs; exact hs
  | bad => rw [e] at hs; exact hs
/-- .. with what the part gave -/
theorem bindE {α β γ δ : Type} {R : RP} {W : WX} {rs : List Nat} {st : L2.St} {r : List Addr} {H : Hp} {S : Sto} {F : Fr} {Rel : List Addr → Hp → α → β → Prop} {Rel' : List Addr → Hp → γ → δ → Prop} {g : Fr → Sto → Out α} {f : α → Sto → Out γ} {Q : δ → Hp → Prop} {Q1 : β → Hp → Prop}
    (h : RS R rs r S H) (hF : RF R r H F st) (hs : Sat R W rs st r H Rel' ((g F S).bind f) Q)
    (k : ∀ r1 S1 H1 a x, g F S = .ok a S1 → Ext r H r1 H1 → RS R rs r1 S1 H1 → RF R r1 H1 F st → Rel r1 H1 a x → Sat R W rs st r1 H1 Rel' (f a S1) Q → Q1 x H1) : tG R W rs Rel g st H Q1 := by
  refine ⟨r, F, S, h, hF, ?_⟩
  cases e : g F S with
  | ok a S1 =>
    rw [e] at hs
    exact fun r1 H1 x e1 h1 rx => k r1 S1 H1 a x e e1 h1 (hF.ext e1) rx (Sat.shift e1 hs)
  | exc x S1 => rw [e] at hs; exact hs
  | bad => rw [e] at hs; exact hs
theorem Sat.fin {α β : Type} {R : RP} {W : WX} {rs : List Nat} {st : L2.St} {r : List Addr} {H : Hp} {S : Sto} {Rel : List Addr → Hp → α → β → Prop} {a : α} {x : β} {Q : β → Hp → Prop} (hs : Sat R W rs st r H Rel (.ok a S) Q) (h : RS R rs r S H) (q : Rel r H a x) : Q x H :=
  hs r H x (.refl _ _) h q

/-- the judgements -/
def SE (R : RP) (W : WX) (rs : List Nat) (X : Cx) (e : Expr) (g : Fr → Sto → Out D) : Prop := PE X e (tG R W rs (Rep R) g)
end OM
namespace L2
open PySem PySem.Spec PyProof.Rows
theorem PE.imp {X : Cx} {e : Expr} {t t' : TE} (h : PE X e t) (k : ∀ st H Q, t' st H Q → t st H Q) : PE X e t' := ⟨fun pins s st H Q I q => h.run pins s st H Q I (k _ _ _ q)⟩
theorem PA.imp {X : Cx} {es : List Expr} {t t' : TA} (h : PA X es t) (k : ∀ st H Q, t' st H Q → t st H Q) : PA X es t' := ⟨fun pos pins s st H Q I q => h.run pos pins s st H Q I (k _ _ _ q)⟩
theorem PT.imp {X : Cx} {e : Expr} {t t' : TT} (h : PT X e t) (k : ∀ st H Q, t' st H Q → t st H Q) : PT X e t' := ⟨fun pins s st H Q I q => h.run pins s st H Q I (k _ _ _ q)⟩
theorem PS.imp {X : Cx} {e : Stmt} {t t' : TS} (h : PS X e t) (k : ∀ D st H, t' D st H → t D st H) : PS X e t' := ⟨fun pins s st H D I q => h.run pins s st H D I (k _ _ _ q)⟩
theorem PSs.imp {X : Cx} {e : List Stmt} {t t' : TS} (h : PSs X e t) (k : ∀ D st H, t' D st H → t D st H) : PSs X e t' := ⟨fun pins s st H D I q => h.run pins s st H D I (k _ _ _ q)⟩
end L2
set_option Elab.async false
set_option linter.all false
set_option maxRecDepth 100000
set_option maxHeartbeats 1000000
/-! OmVal: operators and built-ins, by values. -/
namespace OM
open PySem PySem.Spec PyProof.Rows L2

theorem line_eq : line = sizeLine := by rw [sizeLine_eq]; rfl
theorem okS_len {x : List Nat} (h : okS x = true) : x.length ≤ line := of_decide_eq_true (Bool.and_eq_true_iff.mp h).1
theorem okS_all {x : List Nat} (h : okS x = true) : ∀ c ∈ x, c < 1114112 := fun c hc => of_decide_eq_true (List.all_eq_true.mp (Bool.and_eq_true_iff.mp h).2 c hc)
theorem okS_mk {x : List Nat} (h1 : x.length ≤ line) (h2 : ∀ c ∈ x, c < 1114112) : okS x = true := Bool.and_eq_true_iff.mpr ⟨decide_eq_true h1, List.all_eq_true.mpr fun c hc => decide_eq_true (h2 c hc)⟩
theorem okS_append {x y : List Nat} (h : okS x = true) (g : okS y = true) (l : x.length + y.length ≤ line) : okS (x ++ y) = true :=
  okS_mk (by rw [List.length_append]; exact l) fun c hc => (List.mem_append.mp hc).elim (okS_all h c) (okS_all g c)
theorem okS_sub {x y : List Nat} (h : okS x = true) (s : y.Sublist x) : okS y = true := okS_mk (Nat.le_trans s.length_le (okS_len h)) fun c hc => okS_all h c (s.subset hc)
theorem okIf_t {c : Bool} {d : D} {S : Sto} (h : c = true) : okIf c d S = .ok d S := by unfold okIf; rw [if_pos h]
theorem okIf_sat {R : RP} {W : WX} {rs : List Nat} {st : L2.St} {r : List Addr} {H : Hp} {Rel : List Addr → Hp → D → V → Prop} {c : Bool} {d : D} {S : Sto} {Q : VK} (h : Sat R W rs st r H Rel (okIf c d S) Q) : c = true ∧ Sat R W rs st r H Rel (.ok d S) Q := by
  unfold okIf at h
  cases c with
  | true => exact ⟨rfl, h⟩
  | false => exact h.elim
theorem bad_sat {α β : Type} {R : RP} {W : WX} {rs : List Nat} {st : L2.St} {r : List Addr} {H : Hp} {Rel : List Addr → Hp → α → β → Prop} {Q : β → Hp → Prop} (h : Sat R W rs st r H Rel .bad Q) : False := h

section
variable {R : RP} {W : WX} {rs : List Nat} {st : L2.St} {r : List Addr} {S : Sto} {H : Hp} {Q : VK}
/-- a new list, a new tuple that stand -/
theorem Sat.newL {ds : List D} {vs : List V} (hs : Sat R W rs st r H (Rep R) (.ok (.lst ds) S) Q) (h : RS R rs r S H) (q : Reps R r H ds vs) : ∀ p, H p = none → Q (.ref p) (upd H p (.lst vs)) := fun p n =>
  hs r _ _ (.fresh n) (h.fresh n) (.lst upd_same (h.fre n) (q.ext (.fresh n)))
theorem Sat.newT {ds : List D} {vs : List V} (hs : Sat R W rs st r H (Rep R) (.ok (.tup ds) S) Q) (h : RS R rs r S H) (q : Reps R r H ds vs) : ∀ p, H p = none → Q (.ref p) (upd H p (.tup vs)) := fun p n =>
  hs r _ _ (.fresh n) (h.fresh n) (.tup (.inl ⟨.inl upd_same, h.fre n⟩) (q.ext (.fresh n)))
/-- a new list, a cell or not -/
theorem Sat.mkL {mu : Bool} {ds : List D} {vs : List V} (hs : Sat R W rs st r H (Rep R) (mkList mu ds S) Q) (h : RS R rs r S H) (q : Reps R r H ds vs) : vs.length ≤ sizeLine ∧ ∀ p, H p = none → Q (.ref p) (upd H p (.lst vs)) := by
  unfold mkList at hs
  by_cases hl : ds.length ≤ line
  · rw [if_pos hl] at hs
    refine ⟨by rw [← q.length, ← line_eq]; exact hl, ?_⟩
    cases mu with
    | false => exact hs.newL h q
    | true =>
      intro p n
      have hs : Sat R W rs st r H (Rep R) (.ok (.ref S.length) (S ++ [.lst ds])) Q := hs
      refine hs (r ++ [p]) _ _ (.push n) (h.push n (.lst (q.ext (.push n)))) (.ref ?_)
      rw [← h.len, List.getElem?_append_right (Nat.le_refl _), Nat.sub_self]
      rfl
  · rw [if_neg hl] at hs
    exact hs.elim

/-! ### what a value is -/
theorem seq_of (h : RS R rs r S H) {d : D} {v : V} {xs : List D} (q : Rep R r H d v) (e : seqOf S d = some xs) : ∃ a vs, v = .ref a ∧ (SqL R.K H a vs ∨ SqT R.K H a vs) ∧ Reps R r H xs vs := by
  cases q with
  | tup f g => cases e; exact ⟨_, _, rfl, .inr f.sq, g⟩
  | lst f n g => cases e; exact ⟨_, _, rfl, .inl (.of f), g⟩
  | @ref n a z =>
    obtain ⟨c, o, e1, e2, e3⟩ := h.at z
    simp only [seqOf, e1] at e
    cases e3 with
    | lst g => cases e; exact ⟨_, _, rfl, .inl (.of e2), g⟩
    | obj _ _ => cases e
  | _ => cases e
theorem lst_of (h : RS R rs r S H) {d : D} {v : V} {xs : List D} (q : Rep R r H d v) (e : lstOf S d = some xs) : ∃ a vs, v = .ref a ∧ H a = some (.lst vs) ∧ Reps R r H xs vs := by
  cases q with
  | lst f n g => cases e; exact ⟨_, _, rfl, f, g⟩
  | @ref n a z =>
    obtain ⟨c, o, e1, e2, e3⟩ := h.at z
    simp only [lstOf, e1] at e
    cases e3 with
    | lst g => cases e; exact ⟨_, _, rfl, e2, g⟩
    | obj _ _ => cases e
  | _ => cases e

theorem truth_of (h : RS R rs r S H) {d : D} {v : V} {b : Bool} (q : Rep R r H d v) (e : truth S d = some b) : TruV R.K v H b := by
  cases q with
  | non => cases e; rfl
  | bl b => cases e; rfl
  | int i => cases e; rfl
  | @str x hx =>
    cases e
    refine ⟨by rw [← line_eq]; exact okS_len hx, ?_⟩
    show (!x.isEmpty) = ((((x.toArray.size : Nat) : Int)) != 0)
    cases x with
    | nil => rfl
    | cons a t => simp; omega
  | tup f g =>
    cases e
    refine .inr (.inl ⟨_, f.sq, ?_⟩)
    have := g.length
    rename_i ds vs
    cases ds <;> cases vs <;> first | rfl | simp at this
  | lst f n g =>
    cases e
    refine .inl ⟨_, .of f, ?_⟩
    have := g.length
    rename_i ds vs
    cases ds <;> cases vs <;> first | rfl | simp at this
  | @ref n a z =>
    obtain ⟨c, o, e1, e2, e3⟩ := h.at z
    simp only [truth, e1] at e
    cases e3 with
    | lst g =>
      cases e
      refine .inl ⟨_, .of e2, ?_⟩
      have := g.length
      rename_i ds vs
      cases ds <;> cases vs <;> first | rfl | simp at this
    | obj _ _ => cases e
  | _ => cases e
end

/-! ### operators -/
def VR2 (R : RP) (rel : R2) (f : D → D → Sto → Out D) : Prop :=
  ∀ {W : WX} {rs : List Nat} {st : L2.St} {r : List Addr} {S : Sto} {H : Hp} {x y : D} {xv yv : V} {Q : VK}, RS R rs r S H → Rep R r H x xv → Rep R r H y yv → Sat R W rs st r H (Rep R) (f x y S) Q → rel xv yv H Q

theorem mkS_append (a b : List Nat) : mkS (a ++ b) = mkS a ++ mkS b := by
  show (⟨(a ++ b).toArray⟩ : Str) = ⟨a.toArray ++ b.toArray⟩
  simp
theorem mkS_len (a : List Nat) : (mkS a).length = a.length := by
  show a.toArray.size = a.length
  simp

def rAddI : R2 := rI0 fun i j => .int (i + j)
def rAddS : R2 := fun x y H Q => ∃ i j, x = .str i ∧ y = .str j ∧ i.length + j.length ≤ sizeLine ∧ Q (.str (i ++ j)) H
def rAddU (K : PySem.W.Frag) : R2 := fun x y H Q => (rAddI x y H Q ∨ rAddS x y H Q) ∨ (rCat x y H Q ∨ rCatA K x y H Q)
theorem add_r {X : Cx} : OpR X (binaryOp .Add) (rAddU X.K) := (op_add.or op_add_str).or (op_cat.or op_catA)
theorem add_v {R : RP} : VR2 R (rAddU R.K) vAdd := by
  intro W rs st r S H x y xv yv Q h qx qy hs
  unfold vAdd at hs
  split at hs
  · cases qx
    split at hs
    · cases qy
      exact .inl (.inl ⟨_, _, rfl, rfl, hs.fin h (.int _)⟩)
    · exact hs.elim
  · cases qx with
    | str hx =>
      split at hs
      · cases qy with
        | str hy =>
          obtain ⟨hl, hs⟩ := okIf_sat hs
          have hl := of_decide_eq_true hl
          refine .inl (.inr ⟨_, _, rfl, rfl, by rw [mkS_len, mkS_len, ← line_eq]; exact hl, ?_⟩)
          rw [← mkS_append]
          exact hs.fin h (.str (okS_append hx hy hl))
      · exact hs.elim
  · cases qx with
    | tup f g =>
      split at hs
      · cases qy with
        | tup f2 g2 =>
          obtain ⟨hl, hs⟩ := okIf_sat hs
          have hl := of_decide_eq_true hl
          refine .inr (.inr ⟨_, _, _, _, rfl, rfl, f.sq, f2.sq, by rw [← g.length, ← g2.length, ← line_eq]; exact hl, fun e => ?_, fun e1 e2 => ?_, fun e1 e2 => ?_⟩)
          · subst e
            cases g
            exact hs.fin h (.tup f2 g2)
          · subst e2
            cases g2
            rw [List.append_nil] at hs
            exact hs.fin h (.tup f g)
          · exact hs.newT h (g.append g2)
      · exact hs.elim
  · split at hs
    · rename_i e1 e2
      obtain ⟨a, vs, rfl, ha, ga⟩ := lst_of h qx e1
      obtain ⟨b, us, rfl, hb, gb⟩ := lst_of h qy e2
      obtain ⟨hl, hs⟩ := okIf_sat hs
      have hl := of_decide_eq_true hl
      exact .inr (.inl ⟨_, _, _, _, rfl, rfl, ha, hb, by rw [← ga.length, ← gb.length, ← line_eq]; exact hl, hs.newL h (ga.append gb)⟩)
    · exact hs.elim

def rMulI : R2 := rI CMul fun i j => .int (i * j)
def rMulU : R2 := fun x y H Q => rMulI x y H Q ∨ rRep x y H Q
theorem mul_r {X : Cx} : OpR X (binaryOp .Mult) rMulU := op_mul.or op_rep
theorem Reps.flat {R : RP} {r : List Addr} {H : Hp} {ds : List D} {vs : List V} (g : Reps R r H ds vs) : ∀ n : Nat, Reps R r H (List.replicate n ds).flatten (List.replicate n vs).flatten
  | 0 => .nil
  | n + 1 => by
    rw [List.replicate_succ, List.replicate_succ, List.flatten_cons, List.flatten_cons]
    exact g.append (Reps.flat g n)
theorem mul_v {R : RP} : VR2 R rMulU vMul := by
  intro W rs st r S H x y xv yv Q h qx qy hs
  unfold vMul at hs
  split at hs
  · cases qy
    split at hs
    · cases qx
      obtain ⟨hl, hs⟩ := okIf_sat hs
      refine .inl ⟨_, _, rfl, rfl, ?_, hs.fin h (.int _)⟩
      unfold mulFits at hl
      simp only [Bool.or_eq_true, Bool.and_eq_true, decide_eq_true_eq] at hl
      exact hl
    · split at hs
      · rename_i e
        obtain ⟨a, vs, rfl, ha, ga⟩ := lst_of h qx e
        obtain ⟨hl, hs⟩ := okIf_sat hs
        simp only [Bool.and_eq_true, decide_eq_true_eq] at hl
        exact .inr ⟨_, _, _, rfl, rfl, ha, by omega, by omega, by rw [← ga.length, ← line_eq]; exact hl.2, hs.newL h (ga.flat _)⟩
      · exact hs.elim
  · exact hs.elim

/-- the operators -/
def opOf : BinO → Operator
  | .add => .Add
  | .sub => .Sub
  | .mul => .Mult
  | .fdiv => .FloorDiv
  | .mod => .Mod
  | .pow => .Pow
def rBin (K : PySem.W.Frag) : BinO → R2
  | .add => rAddU K
  | .mul => rMulU
  | .sub => rI0 fun i j => .int (i - j)
  | .fdiv => rI CDiv fun i j => .int (i / j)
  | .mod => rI (fun _ j => 0 < j) fun i j => .int (i % j)
  | .pow => rI CPow fun i j => .int (i ^ j.toNat)
theorem bin_r {X : Cx} : ∀ o : BinO, OpR X (binaryOp (opOf o)) (rBin X.K o)
  | .add => add_r
  | .mul => mul_r
  | .sub => op_sub
  | .fdiv => op_fdiv
  | .mod => op_mod
  | .pow => op_pow
theorem bin_v {R : RP} (o : BinO) : VR2 R (rBin R.K o) (vBin o) := by
  cases o with
  | add => exact add_v
  | mul => exact mul_v
  | sub =>
    intro W rs st r S H x y xv yv Q h qx qy hs
    unfold vBin at hs
    dsimp only at hs
    split at hs
    · cases qx; cases qy
      exact ⟨_, _, rfl, rfl, hs.fin h (.int _)⟩
    · exact hs.elim
  | fdiv =>
    intro W rs st r S H x y xv yv Q h qx qy hs
    unfold vBin at hs
    dsimp only at hs
    split at hs
    · cases qx; cases qy
      obtain ⟨hl, hs⟩ := okIf_sat hs
      simp only [Bool.and_eq_true, decide_eq_true_eq] at hl
      exact ⟨_, _, rfl, rfl, hl, hs.fin h (.int _)⟩
    · exact hs.elim
  | mod =>
    intro W rs st r S H x y xv yv Q h qx qy hs
    unfold vBin at hs
    dsimp only at hs
    split at hs
    · cases qx; cases qy
      obtain ⟨hl, hs⟩ := okIf_sat hs
      exact ⟨_, _, rfl, rfl, of_decide_eq_true hl, hs.fin h (.int _)⟩
    · exact hs.elim
  | pow =>
    intro W rs st r S H x y xv yv Q h qx qy hs
    unfold vBin at hs
    dsimp only at hs
    split at hs
    · cases qx; cases qy
      obtain ⟨hl, hs⟩ := okIf_sat hs
      simp only [Bool.and_eq_true, decide_eq_true_eq] at hl
      exact ⟨_, _, rfl, rfl, ⟨hl.1.1, hl.1.2, hl.2⟩, hs.fin h (.int _)⟩
    · exact hs.elim
end OM
set_option Elab.async false
set_option linter.all false
set_option maxRecDepth 100000
set_option maxHeartbeats 1000000
/-! OmVal2: comparisons, subscripts, built-in functions and methods, by values. -/
namespace OM
open PySem PySem.Spec PyProof.Rows L2

/-! ### order of texts -/
theorem lexLt_iff : ∀ a b : List Nat, lexLt a b = decide (a < b)
  | [], [] => by simp [lexLt]
  | [], _ :: _ => by simp [lexLt]
  | _ :: _, [] => by simp [lexLt]
  | a :: r, b :: t => by
    unfold lexLt
    rw [lexLt_iff r t]
    by_cases h : a < b
    · rw [if_pos h]
      exact (decide_eq_true (List.cons_lt_cons_iff.mpr (.inl h))).symm
    · rw [if_neg h]
      by_cases h2 : b < a
      · rw [if_pos h2]
        refine (decide_eq_false fun z => ?_).symm
        rcases List.cons_lt_cons_iff.mp z with q | ⟨q, _⟩
        · exact h q
        · omega
      · rw [if_neg h2]
        have e : a = b := by omega
        subst e
        rw [Bool.eq_iff_iff, decide_eq_true_iff, decide_eq_true_iff]
        constructor
        · exact fun z => List.cons_lt_cons_iff.mpr (.inr ⟨rfl, z⟩)
        · intro z
          rcases List.cons_lt_cons_iff.mp z with q | ⟨_, q⟩
          · exact absurd q h
          · exact q

/-! ### a text within a text -/
theorem isInfixB_iff (a : List Nat) : ∀ b : List Nat, isInfixB a b = true ↔ ∃ i, i + a.length ≤ b.length ∧ (b.drop i).take a.length = a
  | [] => by
    unfold isInfixB
    constructor
    · intro h
      have : a = [] := List.isEmpty_iff.mp h
      subst this
      exact ⟨0, Nat.le_refl _, rfl⟩
    · rintro ⟨i, h, _⟩
      have : a.length = 0 := by
        rw [List.length_nil] at h
        omega
      exact List.isEmpty_iff.mpr (List.length_eq_zero_iff.mp this)
  | c :: r => by
    unfold isInfixB
    rw [Bool.or_eq_true, isInfixB_iff a r]
    constructor
    · rintro (h | ⟨i, h, e⟩)
      · have h := List.isPrefixOf_iff_prefix.mp h
        refine ⟨0, by simpa using h.length_le, ?_⟩
        rw [List.drop_zero]
        exact (List.prefix_iff_eq_take.mp h).symm
      · exact ⟨i + 1, by rw [List.length_cons]; omega, by rw [List.drop_succ_cons]; exact e⟩
    · rintro ⟨i, h, e⟩
      cases i with
      | zero =>
        left
        rw [List.drop_zero] at e
        exact List.isPrefixOf_iff_prefix.mpr (List.prefix_iff_eq_take.mpr e.symm)
      | succ i =>
        right
        exact ⟨i, by rw [List.length_cons] at h; omega, by rw [List.drop_succ_cons] at e; exact e⟩
theorem infix_occ (a b : List Nat) : (!(Builtin.Str.occurrences (mkS b) (mkS a) 0 (mkS b).length 1).isEmpty) = isInfixB a b := by
  rw [Bool.eq_iff_iff, PySem.StrLaws.found_iff, isInfixB_iff]
  constructor
  · rintro ⟨i, h, e⟩
    rw [PySem.StrLaws.subAt_eq, mkS_len] at e
    rw [mkS_len, mkS_len] at h
    exact ⟨i, h, by simpa [mkS] using eq_of_beq e⟩
  · rintro ⟨i, h, e⟩
    refine ⟨i, by rw [mkS_len, mkS_len]; exact h, ?_⟩
    rw [PySem.StrLaws.subAt_eq, mkS_len]
    simp [mkS, e]

/-! ### plain data -/
mutual
def toP : D → PyData
  | .non => .none
  | .bl b => .bool b
  | .int i => .int i
  | .str x => .str (mkS x)
  | .tup xs => .tuple (toPs xs)
  | .lst xs => .list (toPs xs)
  | _ => .none
def toPs : List D → List PyData
  | [] => []
  | d :: ds => toP d :: toPs ds
end
section
variable {R : RP} {r : List Addr} {H : Hp}
mutual
theorem Rep.dp : ∀ {d : D} {v : V}, Rep R r H d v → d.plain = true → Dp R.K H v (toP d)
  | _, _, .non, _ => .non
  | _, _, .bl b, _ => .bl b
  | _, _, .int i, _ => .int i
  | _, _, .str h, _ => .str _
  | _, _, .tup f g, p => by unfold toP; exact .tup f.sq (Reps.dp g (by unfold D.plain at p; exact p))
  | _, _, .lst f n g, p => by unfold toP; exact .lst (.of f) (Reps.dp g (by unfold D.plain at p; exact p))
  | _, _, .obj _ _ _ _, p => by unfold D.plain at p; cases p
  | _, _, .ref _, p => by unfold D.plain at p; cases p
  | _, _, .fn _, p => by unfold D.plain at p; cases p
  | _, _, .cls _, p => by unfold D.plain at p; cases p
  | _, _, .ty _, p => by unfold D.plain at p; cases p
  | _, _, .frz _, p => by unfold D.plain at p; cases p
theorem Reps.dp : ∀ {ds : List D} {vs : List V}, Reps R r H ds vs → plainL ds = true → DpAll R.K H vs (toPs ds)
  | _, _, .nil, _ => .nil
  | _, _, .cons h t, p => by
    unfold plainL at p
    rw [Bool.and_eq_true] at p
    unfold toPs
    exact .cons (h.dp p.1) (Reps.dp t p.2)
end
mutual
theorem Rep.lay : ∀ {d : D} {v : V}, Rep R r H d v → d.plain = true → (toP d).canLay0 = true
  | _, _, .non, _ => rfl
  | _, _, .bl b, _ => rfl
  | _, _, .int i, _ => rfl
  | _, _, .str (x := x) h, _ => by
    show PySem.PyData.strOk (mkS x) = true
    unfold PySem.PyData.strOk
    show Array.all x.toArray _ = true
    rw [← Array.all_toList]
    exact List.all_eq_true.mpr fun c hc => decide_eq_true (okS_all h c (by simpa using hc))
  | _, _, .tup f g, p => by unfold toP PyData.canLay0; exact Reps.lay g (by unfold D.plain at p; exact p)
  | _, _, .lst f n g, p => by unfold toP PyData.canLay0; exact Reps.lay g (by unfold D.plain at p; exact p)
  | _, _, .obj _ _ _ _, p => by unfold D.plain at p; cases p
  | _, _, .ref _, p => by unfold D.plain at p; cases p
  | _, _, .fn _, p => by unfold D.plain at p; cases p
  | _, _, .cls _, p => by unfold D.plain at p; cases p
  | _, _, .ty _, p => by unfold D.plain at p; cases p
  | _, _, .frz _, p => by unfold D.plain at p; cases p
theorem Reps.lay : ∀ {ds : List D} {vs : List V}, Reps R r H ds vs → plainL ds = true → PyData.canLayAll0 (toPs ds) = true
  | _, _, .nil, _ => rfl
  | _, _, .cons h t, p => by
    unfold plainL at p
    rw [Bool.and_eq_true] at p
    unfold toPs PyData.canLayAll0
    rw [h.lay p.1, Reps.lay t p.2]
    rfl
end
end
mutual
theorem dep_eq : ∀ d : D, d.plain = true → (toP d).depth = d.dep
  | .non, _ => rfl
  | .bl b, _ => rfl
  | .int i, _ => rfl
  | .str x, _ => rfl
  | .tup xs, p => by unfold toP PyData.depth D.dep; rw [depL_eq xs (by unfold D.plain at p; exact p)]
  | .lst xs, p => by unfold toP PyData.depth D.dep; rw [depL_eq xs (by unfold D.plain at p; exact p)]
  | .dct _ _, p => by unfold D.plain at p; cases p
  | .obj _ _ _, p => by unfold D.plain at p; cases p
  | .exc _ _ _, p => by unfold D.plain at p; cases p
  | .ref _, p => by unfold D.plain at p; cases p
  | .fn _, p => by unfold D.plain at p; cases p
  | .cls _, p => by unfold D.plain at p; cases p
  | .ty _, p => by unfold D.plain at p; cases p
  | .frz _, p => by unfold D.plain at p; cases p
theorem depL_eq : ∀ ds : List D, plainL ds = true → PyData.depthAll (toPs ds) = depL ds
  | [], _ => rfl
  | d :: ds, p => by
    unfold plainL at p
    rw [Bool.and_eq_true] at p
    unfold toPs PyData.depthAll depL
    rw [dep_eq d p.1, depL_eq ds p.2]
end
theorem mkS_inj {x y : List Nat} : (mkS x == mkS y) = (x == y) := by
  rw [Bool.eq_iff_iff, beq_iff_eq, beq_iff_eq]
  constructor
  · intro h
    have := congrArg (fun z : Str => z.cps.toList) h
    simpa [mkS] using this
  · rintro rfl; rfl
mutual
theorem eqv_eq : ∀ d e : D, d.plain = true → e.plain = true → PyData.eqv (toP d) (toP e) = D.eqv d e := by
  intro d e hd he
  cases d <;> (try (unfold D.plain at hd; cases hd; done)) <;> cases e <;> (try (unfold D.plain at he; cases he; done)) <;> unfold toP PyData.eqv D.eqv <;> first
    | rfl
    | exact mkS_inj
    | (rename_i xs ys; exact eqvL_eq xs ys (by unfold D.plain at hd; exact hd) (by unfold D.plain at he; exact he))
theorem eqvL_eq : ∀ ds es : List D, plainL ds = true → plainL es = true → PyData.eqvAll (toPs ds) (toPs es) = eqvL ds es
  | [], [], _, _ => rfl
  | [], _ :: _, _, _ => rfl
  | _ :: _, [], _, _ => rfl
  | d :: ds, e :: es, hd, he => by
    unfold plainL at hd he
    rw [Bool.and_eq_true] at hd he
    unfold toPs PyData.eqvAll eqvL
    rw [eqv_eq d e hd.1 he.1, eqvL_eq ds es hd.2 he.2]
end

/-! ### comparisons -/
section
variable {R : RP} {W : WX} {rs : List Nat} {st : L2.St} {r : List Addr} {S : Sto} {H : Hp} {Q : VK}
theorem dat_of (h : RS R rs r S H) {d e : D} {v : V} (q : Rep R r H d v) (x : datOf S d = some e) : Dp R.K H v (toP e) ∧ SeqAt.shaped (toP e) = true ∧ e.plain = true := by
  unfold datOf at x
  by_cases p : d.plain = true
  · rw [if_pos p] at x
    by_cases l : d.dep ≤ 64
    · rw [if_pos l] at x
      cases x
      exact ⟨q.dp p, Bool.and_eq_true_iff.mpr ⟨q.lay p, decide_eq_true (by rw [dep_eq _ p]; exact l)⟩, p⟩
    · rw [if_neg l] at x; cases x
  · rw [if_neg p] at x
    cases q with
    | @ref n a z =>
      obtain ⟨c, o, e1, e2, e3⟩ := h.at z
      simp only [e1] at x
      cases e3 with
      | lst g =>
        rename_i ds vs
        simp only [Bool.and_eq_true, decide_eq_true_eq] at x
        by_cases l : plainL ds = true ∧ depL ds ≤ 63
        · rw [if_pos l] at x
          cases x
          refine ⟨?_, Bool.and_eq_true_iff.mpr ⟨?_, decide_eq_true ?_⟩, ?_⟩
          · unfold toP; exact .lst (.of e2) (g.dp l.1)
          · unfold toP PyData.canLay0; exact g.lay l.1
          · unfold toP PyData.depth
            rw [depL_eq _ l.1]
            omega
          · unfold D.plain; exact l.1
        · rw [if_neg l] at x; cases x
      | obj _ _ => cases x
    | _ => cases x
theorem isNon_iff {d : D} {v : V} (q : Rep R r H d v) : isNon d = decide (v = .non) := by
  cases q <;> simp [isNon]
end
def cmpOf : CmpO → CmpOp
  | .eq => .Eq
  | .ne => .NotEq
  | .lt => .Lt
  | .le => .LtE
  | .gt => .Gt
  | .ge => .GtE
  | .is => .Is
  | .isn => .IsNot
  | .inn => .In
  | .nin => .NotIn
def rLtS : R2 := fun x y H Q => ∃ i j, x = .str i ∧ y = .str j ∧ Q (.bl (decide (i.cps.toList < j.cps.toList))) H
def rInS : R2 := fun x y H Q => ∃ i j, x = .str i ∧ y = .str j ∧ Q (.bl (!(Builtin.Str.occurrences j i 0 j.length 1).isEmpty)) H
def rNinS : R2 := fun x y H Q => ∃ i j, x = .str i ∧ y = .str j ∧ Q (.bl (!(!(Builtin.Str.occurrences j i 0 j.length 1).isEmpty))) H
def rCmp (K : PySem.W.Frag) : CmpO → R2
  | .eq => rEqD K
  | .ne => rNeD K
  | .lt => fun x y H Q => rI0 (fun i j => .bl (decide (i < j))) x y H Q ∨ rLtS x y H Q
  | .le => rI0 fun i j => .bl (decide (i ≤ j))
  | .gt => rI0 fun i j => .bl (decide (j < i))
  | .ge => rI0 fun i j => .bl (decide (j ≤ i))
  | .is => fun x y H Q => y = .non ∧ Q (.bl (decide (x = .non))) H
  | .isn => fun x y H Q => y = .non ∧ Q (.bl (!decide (x = .non))) H
  | .inn => fun x y H Q => rInS x y H Q ∨ rIn K false x y H Q
  | .nin => fun x y H Q => rNinS x y H Q ∨ rIn K true x y H Q
theorem cmp_r {X : Cx} (hu : X.A.units + 64 < cLine) : ∀ o : CmpO, OpR X (compareOp (cmpOf o)) (rCmp X.K o)
  | .eq => op_eqD hu
  | .ne => op_neD hu
  | .lt => op_lt.or op_lt_str
  | .le => op_le
  | .gt => op_gt
  | .ge => op_ge
  | .is => op_isN
  | .isn => op_notN
  | .inn => op_in_str.or op_in_seq
  | .nin => op_notin_str.or op_notIn_seq
section
variable {R : RP} {r : List Addr} {H : Hp}
theorem flat_v {d : D} {v : V} (q : Rep R r H d v) (f : d.flat = true) : flatV v = true := by
  cases q <;> first | rfl | cases f
theorem flatL_v : ∀ {ds : List D} {vs : List V}, Reps R r H ds vs → flatL ds = true → vs.all flatV = true
  | _, _, .nil, _ => rfl
  | _, _, .cons h t, p => by
    unfold flatL at p
    rw [Bool.and_eq_true] at p
    rw [List.all_cons, flat_v h p.1, flatL_v t p.2]
    rfl
theorem eqv_v {d e : D} {v u : V} (q : Rep R r H d v) (z : Rep R r H e u) (f : d.flat = true) (g : e.flat = true) : eqV v u = D.eqv d e := by
  cases q <;> (try (cases f; done)) <;> cases z <;> (try (cases g; done)) <;> unfold D.eqv eqV <;> first | rfl | exact mkS_inj
theorem mem_v {d : D} {v : V} (q : Rep R r H d v) (f : d.flat = true) : ∀ {ds : List D} {vs : List V}, Reps R r H ds vs → flatL ds = true → inV v vs = memD d ds
  | _, _, .nil, _ => rfl
  | _, _, .cons h t, p => by
    unfold flatL at p
    rw [Bool.and_eq_true] at p
    have ih := mem_v q f t p.2
    unfold inV at ih ⊢
    rw [List.any_cons, ih, eqv_v h q p.1 f]
    rfl
end
theorem in_v {R : RP} {W : WX} {rs : List Nat} {st : L2.St} {r : List Addr} {S : Sto} {H : Hp} {x y : D} {xv yv : V} {b : Bool} (h : RS R rs r S H) (qx : Rep R r H x xv) (qy : Rep R r H y yv) (e : vIn x y S = some b) :
    (∃ i j, xv = .str i ∧ yv = .str j ∧ (!(Builtin.Str.occurrences j i 0 j.length 1).isEmpty) = b) ∨ ∃ p xs, yv = .ref p ∧ (SqL R.K H p xs ∨ SqT R.K H p xs) ∧ flatV xv = true ∧ xs.all flatV = true ∧ inV xv xs = b := by
  unfold vIn at e
  split at e
  · split at e
    · cases qy; cases qx
      cases e
      exact .inl ⟨_, _, rfl, rfl, infix_occ _ _⟩
    · cases e
  · split at e
    · rename_i e1
      obtain ⟨a, vs, rfl, hv, g⟩ := seq_of h qy e1
      split at e
      · rename_i f
        rw [Bool.and_eq_true] at f
        cases e
        exact .inr ⟨_, _, rfl, hv, flat_v qx f.1, flatL_v g f.2, mem_v qx f.1 g f.2⟩
      · cases e
    · cases e
theorem cmp_v {R : RP} (o : CmpO) : VR2 R (rCmp R.K o) (vCmp o) := by
  intro W rs st r S H x y xv yv Q h qx qy hs
  cases o <;> unfold vCmp at hs <;> dsimp only at hs
  case eq =>
    split at hs
    · rename_i b e
      unfold vEq at e
      split at e
      · rename_i d f e1 e2
        cases e
        obtain ⟨a1, a2, a3⟩ := dat_of h qx e1
        obtain ⟨b1, b2, b3⟩ := dat_of h qy e2
        exact ⟨_, _, a1, b1, a2, b2, by rw [eqv_eq _ _ a3 b3]; exact hs.fin h (.bl _)⟩
      · cases e
    · exact hs.elim
  case ne =>
    split at hs
    · rename_i b e
      unfold vEq at e
      split at e
      · rename_i d f e1 e2
        cases e
        obtain ⟨a1, a2, a3⟩ := dat_of h qx e1
        obtain ⟨b1, b2, b3⟩ := dat_of h qy e2
        exact ⟨_, _, a1, b1, a2, b2, by rw [eqv_eq _ _ a3 b3]; exact hs.fin h (.bl _)⟩
      · cases e
    · exact hs.elim
  case lt =>
    split at hs
    · cases qx; cases qy
      exact .inl ⟨_, _, rfl, rfl, hs.fin h (.bl _)⟩
    · rename_i a b
      cases qx
      cases qy
      refine .inr ⟨_, _, rfl, rfl, ?_⟩
      have e : decide ((mkS a).cps.toList < (mkS b).cps.toList) = lexLt a b := by
        rw [Bool.eq_iff_iff, decide_eq_true_iff, lexLt_iff, decide_eq_true_iff]
        simp [mkS]
      rw [e]
      exact hs.fin h (.bl _)
    · exact hs.elim
  case le =>
    split at hs
    · cases qx; cases qy
      exact ⟨_, _, rfl, rfl, hs.fin h (.bl _)⟩
    · exact hs.elim
  case gt =>
    split at hs
    · cases qx; cases qy
      exact ⟨_, _, rfl, rfl, hs.fin h (.bl _)⟩
    · exact hs.elim
  case ge =>
    split at hs
    · cases qx; cases qy
      exact ⟨_, _, rfl, rfl, hs.fin h (.bl _)⟩
    · exact hs.elim
  case is =>
    split at hs
    · rename_i e
      rw [isNon_iff qy] at e
      refine ⟨of_decide_eq_true e, ?_⟩
      rw [← isNon_iff qx]
      exact hs.fin h (.bl _)
    · exact hs.elim
  case isn =>
    split at hs
    · rename_i e
      rw [isNon_iff qy] at e
      refine ⟨of_decide_eq_true e, ?_⟩
      rw [← isNon_iff qx]
      exact hs.fin h (.bl _)
    · exact hs.elim
  case inn =>
    split at hs
    · rename_i b e
      rcases in_v (W := W) (st := st) h qx qy e with ⟨i, j, rfl, rfl, e⟩ | ⟨p, xs, rfl, h1, h2, h3, e⟩
      · exact .inl ⟨_, _, rfl, rfl, by rw [e]; exact hs.fin h (.bl _)⟩
      · exact .inr ⟨_, _, rfl, h1, h2, h3, by rw [if_neg (by decide), e]; exact hs.fin h (.bl _)⟩
    · exact hs.elim
  case nin =>
    split at hs
    · rename_i b e
      rcases in_v (W := W) (st := st) h qx qy e with ⟨i, j, rfl, rfl, e⟩ | ⟨p, xs, rfl, h1, h2, h3, e⟩
      · exact .inl ⟨_, _, rfl, rfl, by rw [e]; exact hs.fin h (.bl _)⟩
      · exact .inr ⟨_, _, rfl, h1, h2, h3, by rw [if_pos rfl, e]; exact hs.fin h (.bl _)⟩
    · exact hs.elim

/-! ### subscripts -/
theorem place_ix {i : Int} {n k : Nat} (h : place i n = some k) : ixN n i = some k := by
  unfold place at h
  unfold ixN
  by_cases h0 : 0 ≤ i
  · rw [if_pos h0] at h ⊢
    by_cases h1 : i.toNat < n
    · rw [if_pos h1] at h
      rw [if_pos (by omega)]
      exact h
    · rw [if_neg h1] at h; cases h
  · rw [if_neg h0] at h ⊢
    by_cases h1 : 0 ≤ i + n
    · rw [if_pos h1] at h
      rw [if_pos (by omega)]
      exact h
    · rw [if_neg h1] at h; cases h
def rIxU (K : PySem.W.Frag) : R2 := fun x y H Q => (rIxL K x y H Q ∨ rIxT K x y H Q) ∨ rIxS x y H Q
theorem ix_r {X : Cx} : IxR X (rIxU X.K) := (ix_list.or ix_tup).or ix_str
theorem ix_v {R : RP} : VR2 R (rIxU R.K) vIdx := by
  intro W rs st r S H x y xv yv Q h qx qy hs
  unfold vIdx at hs
  split at hs
  · rename_i a i
    cases qy
    cases qx with
    | str hx =>
      split at hs
      · rename_i k e
        split at hs
        · rename_i c e2
          refine .inr ⟨_, _, c, rfl, rfl, by rw [mkS_len, ← line_eq]; exact okS_len hx, ?_, ?_⟩
          · unfold atI
            rw [show (mkS a).cps.toList.length = a.length by simp [mkS], place_ix e]
            simpa [mkS] using e2
          · exact hs.fin h (.str (okS_mk (by show 1 ≤ line; unfold line; omega) fun c' hc => by
              rw [List.mem_singleton] at hc
              subst hc
              exact okS_all hx _ (List.mem_of_getElem? e2)))
        · exact hs.elim
      · exact hs.elim
  · cases qy
    split at hs
    · rename_i xs e1
      obtain ⟨a, vs, rfl, hv, g⟩ := seq_of h qx e1
      split at hs
      · rename_i k e
        split at hs
        · rename_i d e2
          obtain ⟨v, ev, qv⟩ := g.get e2
          have ea := fun (i : Int) (e : place i xs.length = some k) => (show atI vs i = some v by
            unfold atI
            rw [← g.length, place_ix e]
            exact ev)
          rcases hv with hv | hv
          · exact .inl (.inl ⟨_, _, _, _, rfl, rfl, hv, ea _ e, hs.fin h qv⟩)
          · exact .inl (.inr ⟨_, _, _, _, rfl, rfl, hv, ea _ e, hs.fin h qv⟩)
        · exact hs.elim
      · exact hs.elim
    · exact hs.elim
  · exact hs.elim
end OM
set_option Elab.async false
set_option linter.all false
set_option maxRecDepth 100000
set_option maxHeartbeats 1000000
/-! OmVal3: slices, built-in functions and methods, isinstance, by values. -/
namespace OM
open PySem PySem.Spec PyProof.Rows L2

/-! ### slices -/
theorem clip_ix (n d : Nat) (o : Option Int) : HT.sIx n d o = clip n d o := by
  cases o with
  | none => rfl
  | some v =>
    show (if v < 0 then (v + (n : Int)).toNat else min v.toNat n) = (if 0 ≤ v then min v.toNat n else (v + (n : Int)).toNat)
    by_cases h : v < 0
    · rw [if_pos h, if_neg (by omega)]
    · rw [if_neg h, if_pos (by omega)]
theorem Reps.cut {R : RP} {r : List Addr} {H : Hp} {ds : List D} {vs : List V} (g : Reps R r H ds vs) (lo hi : Option Int) : Reps R r H (OM.cut ds lo hi) (cutV vs lo hi) := by
  unfold OM.cut cutV
  rw [← g.length, clip_ix, clip_ix]
  exact Reps.takeL _ (Reps.drop _ g)
theorem cut_sub {α : Type} (xs : List α) (lo hi : Option Int) : (cut xs lo hi).Sublist xs := by
  unfold cut
  exact (List.take_sublist _ _).trans (List.drop_sublist _ _)
theorem cut_all {α : Type} {xs : List α} {lo hi : Option Int} (h : clip xs.length 0 lo = 0) (h2 : clip xs.length xs.length hi = xs.length) : cut xs lo hi = xs := by
  unfold cut
  rw [h, h2]
  simp
def VR3 (R : RP) (rel : V → Option Int → Option Int → Hp → VK → Prop) (f : D → Option Int → Option Int → Sto → Out D) : Prop :=
  ∀ {W : WX} {rs : List Nat} {st : L2.St} {r : List Addr} {S : Sto} {H : Hp} {x : D} {lo hi : Option Int} {xv : V} {Q : VK}, RS R rs r S H → Rep R r H x xv → Sat R W rs st r H (Rep R) (f x lo hi S) Q → rel xv lo hi H Q
def rSlU (K : PySem.W.Frag) : V → Option Int → Option Int → Hp → VK → Prop := fun x lo hi H Q => (rSlL K x lo hi H Q ∨ rSlA K x lo hi H Q) ∨ rSlS x lo hi H Q
theorem sl_r {X : Cx} : SlR X (rSlU X.K) := (sl_list.or sl_tupA).or sl_str
theorem sl_v {R : RP} : VR3 R (rSlU R.K) vSli := by
  intro W rs st r S H x lo hi xv Q h qx hs
  unfold vSli at hs
  split at hs
  · rename_i a
    cases qx with
    | str hx =>
      refine .inr ⟨_, rfl, by rw [mkS_len, ← line_eq]; exact okS_len hx, ?_⟩
      have e : cutS (mkS a) lo hi = mkS (cut a lo hi) := by
        unfold cutS cut
        rw [mkS_len, clip_ix, clip_ix]
        simp [mkS]
      rw [e]
      exact hs.fin h (.str (okS_sub hx (cut_sub a lo hi)))
  · rename_i xs
    cases qx with
    | frz f =>
      refine .inl (.inl ⟨_, _, rfl, f.sq, ?_⟩)
      have e : cutV (xs.map V.int) lo hi = (cut xs lo hi).map V.int := by
        unfold cut cutV
        rw [clip_ix, clip_ix, List.length_map, List.map_take, List.map_drop]
      rw [e]
      exact hs.newL h (Reps.mapInt _)
  · rename_i xs
    cases qx with
    | tup f g =>
      rename_i ds
      refine .inl (.inr ⟨_, _, rfl, f.sq, fun ⟨w1, w2⟩ => ?_, fun w => ?_⟩)
      · rw [clip_ix, ← g.length] at w1 w2
        rw [cut_all w1 w2] at hs
        exact hs.fin h (.tup f g)
      · exact hs.newT h (g.cut lo hi)
  · split at hs
    · rename_i xs e
      obtain ⟨a, vs, rfl, ha, g⟩ := lst_of h qx e
      exact .inl (.inl ⟨_, _, rfl, .of ha, hs.newL h (g.cut lo hi)⟩)
    · exact hs.elim

/-! ### built-in functions of one value -/
section
variable {R : RP} {W : WX} {rs : List Nat} {st : L2.St} {r : List Addr} {S : Sto} {H : Hp} {Q : VK}
theorem len_of (h : RS R rs r S H) {d : D} {v : V} {n : Nat} (q : Rep R r H d v) (e : lenOf S d = some n) : LenV R.K v H n := by
  unfold lenOf at e
  split at e
  · cases q with
    | str hx =>
      cases e
      exact ⟨by rw [mkS_len, ← line_eq]; exact okS_len hx, (mkS_len _).symm⟩
  · cases e1 : seqOf S d with
    | none => rw [e1] at e; cases e
    | some xs =>
      rw [e1] at e
      cases e
      obtain ⟨a, vs, rfl, hv, g⟩ := seq_of h q e1
      rcases hv with hv | hv
      · exact .inl ⟨_, hv, g.length⟩
      · exact .inr ⟨_, hv, g.length⟩
theorem bools_of : ∀ {ds : List D} {vs : List V} {bs : List Bool}, Reps R r H ds vs → bools ds = some bs → vs = bs.map V.bl
  | _, _, _, .nil, e => by cases e; rfl
  | _, _, bs, .cons (d := d) h t, e => by
    cases h with
    | bl b =>
      unfold bools at e
      rename_i ds vs
      cases e1 : bools ds with
      | none => rw [e1] at e; cases e
      | some cs =>
        rw [e1] at e
        cases e
        rw [List.map_cons, bools_of t e1]
    | _ => cases e
theorem texts_of : ∀ {ds : List D} {vs : List V} {ts : List (List Nat)}, Reps R r H ds vs → texts ds = some ts → vs = (ts.map mkS).map V.str ∧ ∀ t ∈ ts, okS t = true
  | _, _, _, .nil, e => by cases e; exact ⟨rfl, fun _ z => nomatch z⟩
  | _, _, bs, .cons (d := d) h t, e => by
    cases h with
    | str hx =>
      unfold texts at e
      rename_i ds vs x
      cases e1 : texts ds with
      | none => rw [e1] at e; cases e
      | some cs =>
        rw [e1] at e
        cases e
        obtain ⟨i1, i2⟩ := texts_of t e1
        refine ⟨by rw [List.map_cons, List.map_cons, i1], fun z hz => ?_⟩
        rcases List.mem_cons.mp hz with rfl | hz
        · exact hx
        · exact i2 z hz
    | _ => cases e
end
/-- what a built-in is as a value -/
def biV : Bi → Value
  | .len => .builtin "len"
  | .all => .builtin "all"
  | .any => .builtin "any"
  | .int => .type "int"
  | .str => .type "str"
  | .bool => .type "bool"
  | .list => .type "list"
  | .tuple => .type "tuple"
  | .sorted => .builtin "sorted"
  | .sum => .builtin "sum"
  | .max => .builtin "max"
  | .min => .builtin "min"
  | .repr => .builtin "repr"
def rBi (K : PySem.W.Frag) : Bi → List V → Hp → VK → Prop
  | .len => fun xs H Q => ∃ x n, xs = [x] ∧ LenV K x H n ∧ Q (.int n) H
  | .all => rAll K
  | .any => rAny K
  | .int => fun xs H Q => (∃ i, xs = [.int i] ∧ Q (.int i) H) ∨ ∃ k, xs = [.bl k] ∧ Q (.int (if k then 1 else 0)) H
  | .list => fun xs H Q => ∃ p ys, xs = [.ref p] ∧ (SqL K H p ys ∨ SqT K H p ys) ∧ ∀ l, H l = none → Q (.ref l) (upd H l (.lst ys))
  | .tuple => fun xs H Q => ∃ p ys, xs = [.ref p] ∧ ((SqL K H p ys ∧ ∀ l, H l = none → Q (.ref l) (upd H l (.tup ys))) ∨ (SqT K H p ys ∧ Q (.ref p) H))
  | _ => fun _ _ _ => False
theorem bi_r {X : Cx} (hc : X.calm = true) : ∀ b : Bi, CallR X (biV b) (rBi X.K b)
  | .len => call_len
  | .all => cr_all hc
  | .any => cr_any hc
  | .int => call_int1
  | .list => call_list_of
  | .tuple => call_tuple_of
  | .str => fun _ _ _ _ _ _ _ _ _ h => h.elim
  | .bool => fun _ _ _ _ _ _ _ _ _ h => h.elim
  | .sorted => fun _ _ _ _ _ _ _ _ _ h => h.elim
  | .sum => fun _ _ _ _ _ _ _ _ _ h => h.elim
  | .max => fun _ _ _ _ _ _ _ _ _ h => h.elim
  | .min => fun _ _ _ _ _ _ _ _ _ h => h.elim
  | .repr => fun _ _ _ _ _ _ _ _ _ h => h.elim
def VRL (R : RP) (rel : List V → Hp → VK → Prop) (f : List D → Sto → Out D) : Prop :=
  ∀ {W : WX} {rs : List Nat} {st : L2.St} {r : List Addr} {S : Sto} {H : Hp} {xs : List D} {vs : List V} {Q : VK}, RS R rs r S H → Reps R r H xs vs → Sat R W rs st r H (Rep R) (f xs S) Q → rel vs H Q
theorem bi_v {R : RP} (mu : Bool) (b : Bi) : VRL R (rBi R.K b) (vBi mu b) := by
  intro W rs st r S H xs vs Q h qs hs
  unfold vBi at hs
  split at hs
  · rename_i x
    cases qs with
    | cons qx t =>
    cases t
    rename_i v
    cases b <;> unfold vBi1 at hs <;> dsimp only at hs
    case len =>
      split at hs
      · rename_i n e
        exact ⟨v, n, rfl, len_of h qx e, hs.fin h (.int _)⟩
      · exact hs.elim
    case all =>
      split at hs
      · rename_i bs e
        cases e1 : lstOf S x with
        | none => rw [e1] at e; cases e
        | some xs =>
          rw [e1] at e
          obtain ⟨a, vs, rfl, ha, g⟩ := lst_of h qx e1
          have e2 := bools_of g e
          subst e2
          exact ⟨_, bs, rfl, .of ha, hs.fin h (.bl _)⟩
      · exact hs.elim
    case any =>
      split at hs
      · rename_i bs e
        cases e1 : lstOf S x with
        | none => rw [e1] at e; cases e
        | some xs =>
          rw [e1] at e
          obtain ⟨a, vs, rfl, ha, g⟩ := lst_of h qx e1
          have e2 := bools_of g e
          subst e2
          exact ⟨_, bs, rfl, .of ha, hs.fin h (.bl _)⟩
      · exact hs.elim
    case int =>
      split at hs
      · cases qx
        exact .inl ⟨_, rfl, hs.fin h (.int _)⟩
      · cases qx
        exact .inr ⟨_, rfl, hs.fin h (.int _)⟩
      · exact hs.elim
    case list =>
      split at hs
      · rename_i ys e
        obtain ⟨a, vs, rfl, hv, g⟩ := seq_of h qx e
        exact ⟨_, _, rfl, hv, (hs.mkL h g).2⟩
      · exact hs.elim
    case tuple =>
      split at hs
      · rename_i ys e
        cases qx with
        | tup f g => cases e; exact ⟨_, _, rfl, .inr ⟨f.sq, hs.fin h (.tup f g)⟩⟩
        | lst f n g => cases e; exact ⟨_, _, rfl, .inl ⟨.of f, hs.newT h g⟩⟩
        | @ref n a z =>
          obtain ⟨c, o, e1, e2, e3⟩ := h.at z
          simp only [seqOf, e1] at e
          cases e3 with
          | lst g => cases e; exact ⟨_, _, rfl, .inl ⟨.of e2, hs.newT h g⟩⟩
          | obj _ _ => cases e
        | _ => cases e
      · exact hs.elim
    all_goals exact hs.elim
  · exact hs.elim

/-! ### isinstance of built-in classes -/
theorem kit_dec : ∀ k : Fin 7, ∀ t : Fin 7, kitB (tyN k.val) (tyN t.val) = some (kindIn k.val t.val) := by decide +kernel
theorem kit_k {K : PySem.W.Frag} {k t : Nat} (h : k < 7) (g : t < 7) : PySem.W.kitOne K (.type (tyN k)) (.type (tyN t)) = some (kindIn k t) := kit_ty (kit_dec ⟨k, h⟩ ⟨t, g⟩)
section
variable {R : RP} {rs : List Nat} {r : List Addr} {S : Sto} {H : Hp}
theorem kind_of (h : RS R rs r S H) {d : D} {v : V} {k : Nat} (q : Rep R r H d v) (e : kindOf S d = some k) : TyX R.K H v (.type (tyN k)) ∧ k < 7 := by
  cases q with
  | non => cases e; exact ⟨.base .non, by decide⟩
  | bl b => cases e; exact ⟨.base (.bl b), by decide⟩
  | int i => cases e; exact ⟨.base (.int i), by decide⟩
  | str hx => cases e; exact ⟨.base (.str _), by decide⟩
  | tup f g =>
    cases e
    refine ⟨?_, by decide⟩
    rcases f with ⟨f | ⟨o, f⟩, _⟩ | ⟨o, its, n, hk, hc, _⟩
    · exact .base (.tup f)
    · exact .fTuple f
    · exact .kTuple hk hc
  | lst f n g => cases e; exact ⟨.base (.lst f), by decide⟩
  | @ref n a z =>
    obtain ⟨c, o, e1, e2, e3⟩ := h.at z
    simp only [kindOf, e1] at e
    cases e3 with
    | lst g => cases e; exact ⟨.base (.lst e2), by decide⟩
    | obj _ _ => cases e
  | _ => cases e
theorem inst_of (h : RS R rs r S H) {d : D} {v : V} (q : Rep R r H d v) : ∀ {ts : List D} {us : List V} {b : Bool}, Reps R r H ts us → isInst S d ts = some b →
    ∃ ws, Paired ClsV us ws ∧ (ts = [] ∨ ∃ k, k < 7 ∧ TyX R.K H v (.type (tyN k)) ∧ kindOf S d = some k ∧ PySem.W.kitAny R.K (.type (tyN k)) ws = some b)
  | _, _, _, .nil, e => ⟨[], .nil, .inl rfl⟩
  | _, _, b, .cons (d := t) (ds := ts) qt g, e => by
    cases qt with
    | ty t =>
      unfold isInst at e
      cases e1 : kindOf S d with
      | none => rw [e1] at e; cases e
      | some k =>
        cases e2 : isInst S d ts with
        | none => rw [e1, e2] at e; cases e
        | some c =>
          rw [e1, e2] at e
          dsimp only at e
          by_cases ht : t < 7
          · rw [if_pos ht] at e
            cases e
            obtain ⟨ty, hk⟩ := kind_of h q e1
            obtain ⟨ws, p, i⟩ := inst_of h q g e2
            refine ⟨.type (tyN t) :: ws, .cons (.ty _) p, .inr ⟨k, hk, ty, rfl, ?_⟩⟩
            have rest : PySem.W.kitAny R.K (.type (tyN k)) ws = some c := by
              rcases i with i | ⟨k', _, _, e3, i⟩
              · subst i
                cases g
                cases p
                cases e2
                rfl
              · rw [e1] at e3
                cases e3
                exact i
            refine kitAny_cons (kit_k hk ht) (fun z => ?_) fun z => ?_
            · rw [z, Bool.false_or]; exact rest
            · rw [z, Bool.true_or]
          · rw [if_neg ht] at e; cases e
    | _ => cases e
end

/-! ### methods of built-in types -/
theorem joinT_eq (s : List Nat) : ∀ ts : List (List Nat), joinT s ts = TL.joinL s ts
  | [] => rfl
  | [_] => rfl
  | x :: y :: t => by
    unfold joinT TL.joinL
    rw [joinT_eq s (y :: t), List.append_assoc]
theorem sumLen_eq : ∀ ts : List (List Nat), ((ts.map mkS).map (·.length)).sum = sumLen ts
  | [] => rfl
  | x :: t => by
    rw [List.map_cons, List.map_cons, List.sum_cons, sumLen_eq t]
    show (mkS x).length + _ = _
    rw [mkS_len]
    rfl
theorem joinT_len (s : List Nat) : ∀ ts : List (List Nat), (joinT s ts).length ≤ sumLen ts + ts.length * s.length
  | [] => Nat.zero_le _
  | [x] => by simp [joinT, sumLen]
  | x :: y :: t => by
    have ih := joinT_len s (y :: t)
    unfold joinT
    simp only [List.length_append, List.length_cons, sumLen, Nat.add_mul] at ih ⊢
    omega
theorem joinT_mem (s : List Nat) {c : Nat} : ∀ ts : List (List Nat), c ∈ joinT s ts → c ∈ s ∨ ∃ t ∈ ts, c ∈ t
  | [], h => nomatch h
  | [x], h => .inr ⟨x, by simp, h⟩
  | x :: y :: t, h => by
    unfold joinT at h
    rcases List.mem_append.mp h with h | h
    · rcases List.mem_append.mp h with h | h
      · exact .inr ⟨x, by simp, h⟩
      · exact .inl h
    · rcases joinT_mem s (y :: t) h with h | ⟨z, hz, h⟩
      · exact .inl h
      · exact .inr ⟨z, List.mem_cons_of_mem _ hz, h⟩
def VRM (R : RP) (rel : V → List V → Hp → VK → Prop) (f : D → List D → Sto → Out D) : Prop :=
  ∀ {W : WX} {rs : List Nat} {st : L2.St} {r : List Addr} {S : Sto} {H : Hp} {x : D} {xs : List D} {v : V} {vs : List V} {Q : VK}, RS R rs r S H → Rep R r H x v → Reps R r H xs vs → Sat R W rs st r H (Rep R) (f x xs S) Q → rel v vs H Q
def rJoin (K : PySem.W.Frag) : V → List V → Hp → VK → Prop := fun x xs H Q => ∃ a p, ∃ ys : List Str, x = .str a ∧ xs = [.ref p] ∧ (SqL K H p (ys.map V.str) ∨ SqT K H p (ys.map V.str)) ∧
    (ys.map (·.length)).sum + ys.length * a.length ≤ 16777216 ∧ Q (.str (Txt.join a ys)) H
theorem join_v {R : RP} : VRM R (rJoin R.K) vJoin := by
  intro W rs st r S H x xs v vs Q h qx qs hs
  unfold vJoin at hs
  split at hs
  · rename_i s y
    cases qx with
    | str hx =>
    cases qs with
    | cons qy t =>
    cases t
    split at hs
    · rename_i ts e
      cases e1 : seqOf S y with
      | none => rw [e1] at e; cases e
      | some ys =>
        rw [e1] at e
        obtain ⟨a, us, rfl, hv, g⟩ := seq_of h qy e1
        obtain ⟨e2, ok⟩ := texts_of g e
        subst e2
        obtain ⟨hl, hs⟩ := okIf_sat hs
        have hl := of_decide_eq_true hl
        have hl2 : sumLen ts + ts.length * s.length ≤ 16777216 := hl
        refine ⟨_, _, ts.map mkS, rfl, rfl, hv, by rw [sumLen_eq, List.length_map, mkS_len]; exact hl2, ?_⟩
        have ej : Txt.join (mkS s) (ts.map mkS) = mkS (joinT s ts) := by rw [joinT_eq]; exact SX.join_S s ts
        rw [ej]
        exact hs.fin h (.str (okS_mk (Nat.le_trans (joinT_len s ts) hl) fun c hc => by
          rcases joinT_mem s ts hc with z | ⟨t, ht, z⟩
          · exact okS_all hx c z
          · exact okS_all (ok t ht) c z))
    · exact hs.elim
  · exact hs.elim

theorem fits_lo {rs : List Nat} {b : Nat} {v : D} (h : fitsIn rs b v = true) : ∀ m ∈ rs, b < m → v.lo m = true := fun m hm hb => by
  have q := List.all_eq_true.mp h m hm
  rw [Bool.or_eq_true] at q
  rcases q with q | q
  · have := of_decide_eq_true q
    omega
  · exact q
theorem loL_append {m : Nat} : ∀ {xs ys : List D}, loL m (xs ++ ys) = (loL m xs && loL m ys)
  | [], ys => by simp [loL]
  | x :: xs, ys => by
    simp only [List.cons_append, loL, loL_append (xs := xs), Bool.and_assoc]
theorem append_v {R : RP} : ∀ {W : WX} {rs : List Nat} {st : L2.St} {r : List Addr} {S : Sto} {H : Hp} {x : D} {xs : List D} {v : V} {vs : List V} {Q : VK}, RS R rs r S H → Rep R r H x v → Reps R r H xs vs → Sat R W rs st r H (Rep R) (vAppend rs x xs S) Q → rAppend v vs H Q := by
  intro W rs st r S H x xs v vs Q h qx qs hs
  unfold vAppend at hs
  split at hs
  · rename_i n y
    cases qx with
    | ref z =>
    cases qs with
    | cons qy t =>
    cases t
    obtain ⟨c, o, e1, e2, e3⟩ := h.at z
    simp only [e1] at hs
    cases e3 with
    | lst g =>
      dsimp only at hs
      split at hs
      · rename_i l
        rw [Bool.and_eq_true] at l
        have l1 := of_decide_eq_true l.1
        have hm := List.mem_of_getElem? z
        refine ⟨_, _, _, rfl, rfl, e2, by rw [← g.length, ← line_eq]; exact l1, ?_⟩
        refine hs r _ _ (.write hm) (h.write z (.lst ((g.append (.cons qy .nil)).ext (.write hm))) fun m hm' hn => ?_) .non
        unfold Cell.lo
        dsimp only
        rw [loL_append]
        have h1 := (h.reg m hm').2 n _ hn e1
        simp only [Cell.lo] at h1
        rw [h1, Bool.true_and]
        simp only [loL, fits_lo l.2 m hm' hn, Bool.and_true]
      · exact hs.elim
    | obj _ _ => exact hs.elim
  · exact hs.elim
/-- the rules by name -/
def rBm (K : PySem.W.Frag) : Bm → V → List V → Hp → VK → Prop
  | .join => rJoin K
  | .append => rAppend
def bmT : Bm → String
  | .join => "str"
  | .append => "list"
def bmN : Bm → String
  | .join => "join"
  | .append => "append"
def bmId : Bm → String
  | .join => "str.join"
  | .append => "list.append"
theorem bm_r {X : Cx} : ∀ b : Bm, MtR X (bmId b) (rBm X.K b)
  | .join => mt_join
  | .append => mt_append
theorem bm_v {R : RP} (b : Bm) : ∀ {W : WX} {rs : List Nat} {st : L2.St} {r : List Addr} {S : Sto} {H : Hp} {x : D} {xs : List D} {v : V} {vs : List V} {Q : VK}, RS R rs r S H → Rep R r H x v → Reps R r H xs vs → Sat R W rs st r H (Rep R) (vBm rs b x xs S) Q → rBm R.K b v vs H Q := by
  cases b with
  | join => exact fun h q g s => join_v h q g s
  | append => exact fun h q g s => append_v h q g s
/-- the receiver's type -/
theorem bm_ty {R : RP} (b : Bm) {rs : List Nat} {r : List Addr} {S : Sto} {H : Hp} {x : D} {v : V} (h : RS R rs r S H) (qx : Rep R r H x v) (hs : bmOk S b x = true) : tyV R.K (bmT b) v H := by
  cases b with
  | join =>
    unfold bmOk at hs
    dsimp only at hs
    split at hs
    · cases qx; rfl
    · cases hs
  | append =>
    unfold bmOk at hs
    dsimp only at hs
    split at hs
    · cases qx with
      | ref z =>
      obtain ⟨c, o, e1, e2, e3⟩ := h.at z
      simp only [e1] at hs
      cases e3 with
      | lst g => exact .inl ⟨rfl, _, .of e2⟩
      | obj _ _ => cases hs
    · cases hs
end OM
set_option Elab.async false
set_option linter.all false
set_option maxRecDepth 100000
set_option maxHeartbeats 1000000
/-! OmCall: what a def promises, the end of a call, a call with any arguments. -/
namespace OM
open PySem PySem.Spec PyProof.Rows L2

/-- the promise of a def that does what g does -/
def spOf (R : RP) (np : Nat) (g : List D → List Nat → Sto → Out D) : Sp := fun vs H Q E =>
  ∃ hid r S ds rs, ds.length = np ∧ RS (R.h hid) rs r S H ∧ Reps (R.h hid) r H ds vs ∧ Sat (R.h hid) (fun c d _ H => E c d H) rs [] r H (Rep (R.h hid)) (g ds rs S) Q

theorem RepC.low {R : RP} {r : List Addr} {H : Hp} {c : Cell} {o : HO} (h : RepC R r H c o) : c.lo r.length = true := by
  cases h with
  | lst g => exact g.low
  | obj m g => exact g.low
section
variable {R : RP} {W : WX} {rs : List Nat} {st : L2.St} {r r' : List Addr} {S S' : Sto} {H H' : Hp} {Q : VK}
theorem RS.region (h : RS R rs r S H) : RS R (S.length :: rs) r S H :=
  ⟨h.len, h.nd, h.cell, fun m hm => by
    rcases List.mem_cons.mp hm with rfl | hm
    · refine ⟨Nat.le_refl _, fun n c _ e => ?_⟩
      obtain ⟨a, o, _, _, q⟩ := h.cell n c e
      rw [← h.len]
      exact q.low
    · exact h.reg m hm, h.hd⟩
theorem Ext.cut {n : Nat} (e : Ext r H r' H') (hn : r.length = n) : Ext r H (r'.take n) H' :=
  ⟨fun k hk => by rw [List.getElem?_take_of_lt (by omega)]; exact e.old k hk, e.keep, fun a m => e.new a (List.mem_of_mem_take m)⟩
theorem RS.cut {n : Nat} (h : RS R (n :: rs) r' S' H') (hr : ∀ m ∈ rs, m ≤ n) : RS R rs (r'.take n) (S'.take n) H' := by
  obtain ⟨hn, hc⟩ := h.reg n List.mem_cons_self
  refine ⟨by rw [List.length_take, List.length_take, h.len], h.nd.sublist (List.take_sublist _ _), fun k c e => ?_, fun m hm => ?_, fun a m => ⟨nin_take (h.hd a m).1, (h.hd a m).2⟩⟩
  · have hk : k < n := by
      have := (List.getElem?_eq_some_iff.mp e).1
      rw [List.length_take] at this
      omega
    rw [List.getElem?_take_of_lt hk] at e
    obtain ⟨a, o, e1, x, y⟩ := h.cell k c e
    exact ⟨a, o, by rw [List.getElem?_take_of_lt hk]; exact e1, x, y.take n (hc k c hk e)⟩
  · obtain ⟨h1, h2⟩ := h.reg m (List.mem_cons_of_mem _ hm)
    have := hr m hm
    refine ⟨by rw [List.length_take]; omega, fun k c hk e => ?_⟩
    rw [List.getElem?_take_of_lt (by omega)] at e
    exact h2 k c hk e
theorem nin_cut {n k : Nat} {a : Addr} (nd : r.Nodup) (e : r[k]? = some a) (h : n ≤ k) : a ∉ r.take n := fun m => by
  obtain ⟨j, hj, q⟩ := List.getElem_of_mem m
  rw [List.length_take] at hj
  rw [List.getElem_take] at q
  obtain ⟨h1, g1⟩ := List.getElem?_eq_some_iff.mp e
  have := (List.getElem_inj nd).mp (g1.trans q.symm)
  omega
theorem Rep.frozen {n : Nat} {d d' : D} {v : V} (h : RS R rs r S H) (q : Rep R r H d v) (e : frz1 S n d = some d') : Rep R (r.take n) H d' v := by
  have plain : ∀ {d : D} {v : V}, Rep R r H d v → (if d.lo n = true then some d else none) = some d' → Rep R (r.take n) H d' v := fun {d v} q e => by
    by_cases l : d.lo n = true
    · rw [if_pos l] at e
      cases e
      exact q.take n l
    · rw [if_neg l] at e; cases e
  cases q with
  | @ref k a z =>
    unfold frz1 at e
    dsimp only at e
    by_cases hk : k < n
    · rw [if_pos hk] at e
      cases e
      exact .ref (by rw [List.getElem?_take_of_lt hk]; exact z)
    · rw [if_neg hk] at e
      obtain ⟨c, o, e1, e2, e3⟩ := h.at z
      simp only [e1] at e
      have ni : Fre R (r.take n) a := ⟨nin_cut h.nd z (Nat.le_of_not_lt hk), fun m => (h.hd a m).1 (List.mem_of_getElem? z)⟩
      cases e3 with
      | lst g =>
        dsimp only at e
        split at e
        · rename_i l
          cases e
          exact .lst e2 ni (g.take n l)
        · cases e
      | obj m g =>
        dsimp only at e
        split at e
        · rename_i l
          cases e
          exact .obj e2 ni m (g.take n l)
        · cases e
  | non => exact plain .non e
  | bl b => exact plain (.bl b) e
  | int i => exact plain (.int i) e
  | str x => exact plain (.str x) e
  | tup f g => exact plain (.tup f g) e
  | lst f m g => exact plain (.lst f m g) e
  | frz f => exact plain (.frz f) e
  | obj a b c d => exact plain (.obj a b c d) e
  | fn k => exact plain (.fn k) e
  | cls k => exact plain (.cls k) e
  | ty k => exact plain (.ty k) e
theorem RepX.take {n : Nat} {x : D} {cls : Value} {dd : Option Addr} (q : RepX R r H x cls dd) (l : x.lo n = true) : RepX R (r.take n) H x cls dd := by
  obtain ⟨c, ns, ds, dx, fs, rfl, h1, h2, h3, h4, h5, h6⟩ := q
  exact ⟨c, ns, ds, dx, fs, rfl, h1, h2, h3, nin_take h4, h5, h6.take n (by unfold D.lo at l; exact l)⟩
/-- the end of a call whose cells go -/
theorem Sat.endCall {o : Out D} (h : RS R rs r S H) (hs : Sat R W rs st r H (Rep R) (endCall S o) Q) : Sat R (fun c d _ H => W c d st H) (S.length :: rs) [] r H (Rep R) o Q := by
  have hr : ∀ m ∈ rs, m ≤ S.length := fun m hm => (h.reg m hm).1
  cases o with
  | ok d S' =>
    intro r' H' v e h' q
    unfold OM.endCall at hs
    dsimp only at hs
    split at hs
    · rename_i d' e2
      exact hs _ _ _ (e.cut h.len) (h'.cut hr) (q.frozen h' e2)
    · exact hs.elim
  | exc x S' =>
    intro r' H' cls dd e h' q
    unfold OM.endCall at hs
    dsimp only at hs
    split at hs
    · rename_i l
      exact hs _ _ _ _ (e.cut h.len) (h'.cut hr) (q.take l)
    · exact hs.elim
  | bad => exact hs
end

/-! ### binding -/
theorem lookN_rel {α β : Type} {P : α → β → Prop} {x : Nat} : ∀ {kn : List Nat} {ka : List α} {kb : List β}, Paired P ka kb → (∀ a, lookN x kn ka = some a → ∃ b, lookN x kn kb = some b ∧ P a b) ∧ (lookN x kn ka = none → lookN x kn kb = none)
  | [], _, _, _ => ⟨fun _ z => by simp [lookN] at z, fun _ => by simp [lookN]⟩
  | _ :: _, _, _, .nil => ⟨fun _ z => by simp [lookN] at z, fun _ => by simp [lookN]⟩
  | n :: ns, a :: ka, b :: kb, .cons p t => by
    obtain ⟨i1, i2⟩ := lookN_rel (x := x) (kn := ns) t
    unfold lookN
    cases hn : n == x with
    | true =>
      simp only [if_true]
      exact ⟨fun a' e => by cases e; exact ⟨b, rfl, p⟩, fun z => by cases z⟩
    | false =>
      simp only [Bool.false_eq_true, if_false]
      exact ⟨i1, i2⟩
theorem Paired.get' {α β : Type} {P : α → β → Prop} : ∀ {as : List α} {bs : List β} {i : Nat} {a : α}, Paired P as bs → as[i]? = some a → ∃ b, bs[i]? = some b ∧ P a b
  | _, _, _, _, .nil, e => by simp at e
  | _, _, 0, _, .cons h _, e => by simp at e; subst e; exact ⟨_, rfl, h⟩
  | _, _, i + 1, _, .cons _ t, e => by
    obtain ⟨v, q, h⟩ := Paired.get' (i := i) t (by simpa using e)
    exact ⟨v, by simpa using q, h⟩
theorem bindA_rel {α β : Type} {P : α → β → Prop} {dv : List α} {dw : List β} (hd : Paired P dv dw) {kn : List Nat} {ka : List α} {kb : List β} (hk : Paired P ka kb) : ∀ {ps : List Nat} {as : List α} {bs : List β} {zs : List α}, Paired P as bs → bindA dv ps as kn ka = some zs →
    ∃ ws, bindA dw ps bs kn kb = some ws ∧ Paired P zs ws
  | [], [], _, zs, .nil, e => by
    unfold bindA at e
    cases e
    exact ⟨[], rfl, .nil⟩
  | [], _ :: _, _, _, .cons _ _, e => by unfold bindA at e; cases e
  | p :: ps, a :: as, b :: bs, zs, .cons q t, e => by
    unfold bindA at e
    cases e1 : bindA dv ps as kn ka with
    | none => rw [e1] at e; cases e
    | some ys =>
      rw [e1] at e
      cases e
      obtain ⟨ws, i1, i2⟩ := bindA_rel hd hk t e1
      exact ⟨b :: ws, by unfold bindA; rw [i1]; rfl, .cons q i2⟩
  | p :: ps, [], _, zs, .nil, e => by
    unfold bindA at e
    obtain ⟨l1, l2⟩ := lookN_rel (x := p) (kn := kn) hk
    cases e0 : lookN p kn ka with
    | some d =>
      obtain ⟨b, e0', pb⟩ := l1 d e0
      rw [e0] at e
      dsimp only at e
      cases e1 : bindA dv ps [] kn ka with
      | none => rw [e1] at e; cases e
      | some ys =>
        rw [e1] at e
        cases e
        obtain ⟨ws, i1, i2⟩ := bindA_rel hd hk .nil e1
        exact ⟨b :: ws, by unfold bindA; rw [e0']; dsimp only; rw [i1]; rfl, .cons pb i2⟩
    | none =>
      have e0' := l2 e0
      rw [e0] at e
      dsimp only at e
      have hl : dv.length = dw.length := Paired.length hd
      by_cases hp : ps.length < dv.length
      · rw [if_pos hp] at e
        cases e2 : dv[dv.length - (ps.length + 1)]? with
        | none => rw [e2] at e; cases e
        | some d =>
          rw [e2] at e
          dsimp only at e
          obtain ⟨b, e2', pb⟩ := Paired.get' hd e2
          cases e1 : bindA dv ps [] kn ka with
          | none => rw [e1] at e; cases e
          | some ys =>
            rw [e1] at e
            cases e
            obtain ⟨ws, i1, i2⟩ := bindA_rel hd hk .nil e1
            refine ⟨b :: ws, ?_, .cons pb i2⟩
            unfold bindA
            rw [e0']
            dsimp only
            rw [if_pos (by omega), ← hl, e2']
            dsimp only
            rw [i1]
            rfl
      · rw [if_neg hp] at e; cases e
theorem bindA_len {α : Type} {dv : List α} {kn : List Nat} {ka : List α} : ∀ {ps : List Nat} {as zs : List α}, bindA dv ps as kn ka = some zs → zs.length = ps.length
  | [], [], zs, e => by unfold bindA at e; cases e; rfl
  | [], _ :: _, _, e => by unfold bindA at e; cases e
  | p :: ps, a :: as, zs, e => by
    unfold bindA at e
    cases e1 : bindA dv ps as kn ka with
    | none => rw [e1] at e; cases e
    | some ys => rw [e1] at e; cases e; rw [List.length_cons, List.length_cons, bindA_len e1]
  | p :: ps, [], zs, e => by
    unfold bindA at e
    cases e0 : lookN p kn ka with
    | some d =>
      rw [e0] at e
      dsimp only at e
      cases e1 : bindA dv ps [] kn ka with
      | none => rw [e1] at e; cases e
      | some ys => rw [e1] at e; cases e; rw [List.length_cons, List.length_cons, bindA_len e1]
    | none =>
      rw [e0] at e
      dsimp only at e
      by_cases hp : ps.length < dv.length
      · rw [if_pos hp] at e
        cases e2 : dv[dv.length - (ps.length + 1)]? with
        | none => rw [e2] at e; cases e
        | some d =>
          rw [e2] at e
          dsimp only at e
          cases e1 : bindA dv ps [] kn ka with
          | none => rw [e1] at e; cases e
          | some ys => rw [e1] at e; cases e; rw [List.length_cons, List.length_cons, bindA_len e1]
      · rw [if_neg hp] at e; cases e
/-- one shape of call: n positional values, the keywords kn -/
def Shape (K : PySem.W.Frag) (an : Nat → Str) (fd : FuncData) (ps : List Nat) (dw : List Value) (n : Nat) (kn : List Nat) : Prop :=
  ∀ (s : Shared) (us ws zs : List Value), K.In s.heap → us.length = n → ws.length = kn.length → bindA dw ps us kn ws = some zs → BindsTo s fd ⟨us, (kn.map an).zip ws⟩ ((ps.map an).zip zs)

/-! ### the call -/
theorem bindA_vals {dvs vs kvs zs : List V} {dw us ws : List Value} {ps kn : List Nat} (hd : Vals dvs dw) (hv : Vals vs us) (hk : Vals kvs ws) (e : bindA dvs ps vs kn kvs = some zs) : ∃ xs, bindA dw ps us kn ws = some xs ∧ Vals zs xs := bindA_rel hd hk hv e
section
variable {X : Cx} {W : WX} {k : Nat} {f : Addr} {fd : FuncData} {ps kn : List Nat} {an : Nat → Str} {sp : Sp} {dvs : List V} {dw : List Value} {x : Str} {p pos : Pos} {es : List Expr} {kws : List Keyword} {t tk : TA}
def tCallG (W : WX) (sp : Sp) (ps : List Nat) (dvs : List V) (n : Nat) (kn : List Nat) (t tk : TA) : TE := fun σ H Q => t σ H fun vs H1 => tk σ H1 fun ks H2 => vs.length = n ∧ ks.length = kn.length ∧ ∃ zs, bindA dvs ps vs kn ks = some zs ∧ sp zs H2 Q (fun c d H => W c d σ H)
theorem run_fnG {pins : List (Addr × Obj)} {σ : L2.St} {H : Hp} {s : Shared} {Q : VK} {us ws : List Value} {vs ks zs : List V} (F : FnOk X.prog X.w X.K X.mg X.base (L2.CX X.prog X.w) k f fd (ps.map an) sp) (hr : Room k X.A) (tkW : Takes X W) (hd : Vals dvs dw) (sh : Shape X.K an fd ps dw us.length kn)
    (I : Inv X pins σ H s) (rv : Vals vs us) (rk : Vals ks ws) (hl : ws.length = kn.length) (e : bindA dvs ps vs kn ks = some zs) (h : sp zs H Q (fun c d H => W c d σ H)) : wpAny (model X.prog X.w) X.A (call (.ref f) us ((kn.map an).zip ws)) (EP X pins σ Q) X.xe s := by
  obtain ⟨xs, e2, rz⟩ := bindA_vals hd rv rk e
  refine wpAny_call (codeAny_mono (F.run X.A X.stack s H ⟨us, (kn.map an).zip ws⟩ xs zs Q _ hr I.env0 (sh s us ws xs I.kIn rfl hl e2) rz h) fun r s' hq => ?_)
  cases r with
  | error e => exact tkW _ _ (XE.of_call I (fun cls d H' w => w) hq)
  | ok fl =>
    cases fl with
    | ret u => exact I.after hq
    | next => exact False.elim hq
    | brk => exact False.elim hq
    | cont => exact False.elim hq
theorem pe_callG {e : Expr} {r : List Expr} (F : FnOk X.prog X.w X.K X.mg X.base (L2.CX X.prog X.w) k f fd (ps.map an) sp) (hr : Room k X.A) (tkW : Takes X W) (hg : Gl X x) (hm : X.mg x = some (.ref f)) (hk : PySem.W.keepIn X.K (.ref f) = true) (hd : Vals dvs dw) {n : Nat} (sh : Shape X.K an fd ps dw n kn)
    (ha : PA X (e :: r) t) (hkw : PK X kws tk) (hall : (backToKw pos (keywordEach kws X.env)).all (·.1.isSome) = true) (hks : (backToKw pos (keywordEach kws X.env)).filterMap (·.1) = kn.map an)
    (hdb : (x == ("__debug__" : Str)) = false) (he : starEach (e :: r) X.env = (false, eval e X.env) :: starEach r X.env)
    (hpl : ((backTo pos (starEach (e :: r) X.env)).any (·.1) || (backToKw pos (keywordEach kws X.env)).any (·.1.isNone)) = false) :
    PE X (.Call (.Name x p) (e :: r) kws pos) (tCallG W sp ps dvs n kn t tk) := by
  refine ⟨fun pins s σ H Q I h => ?_⟩
  refine wpAny_Call_Name_kw (ld_glob I hg hm ?_ hdb)
  refine PySem.W.callWith_KW (h₀ := X.base) I.ok.mod.kin hk hall (thn (ha.run pos pins s σ H _ I h) fun us s1 ⟨vs, H1, I1, rv, q⟩ => ?_) hpl he
  refine thn (hkw.run pos pins s1 σ H1 _ I1 q) fun ws s2 ⟨ks, H2, I2, rk, q2⟩ => ⟨I2.kIn, ?_⟩
  obtain ⟨l1, l2, zs, e2, q3⟩ := q2
  rw [hks]
  have hl : us.length = n := by rw [← rv.length]; exact l1
  exact run_fnG F hr tkW hd (by rw [List.nil_append, hl]; exact sh) I2 rv rk (by rw [← rk.length]; exact l2) e2 q3
theorem pe_callG0 (F : FnOk X.prog X.w X.K X.mg X.base (L2.CX X.prog X.w) k f fd (ps.map an) sp) (hr : Room k X.A) (tkW : Takes X W) (hg : Gl X x) (hm : X.mg x = some (.ref f)) (hk : PySem.W.keepIn X.K (.ref f) = true) (hd : Vals dvs dw) (sh : Shape X.K an fd ps dw 0 kn)
    (hkw : PK X kws tk) (hall : (backToKw pos (keywordEach kws X.env)).all (·.1.isSome) = true) (hks : (backToKw pos (keywordEach kws X.env)).filterMap (·.1) = kn.map an)
    (hdb : (x == ("__debug__" : Str)) = false) (hpl : ((backTo pos (starEach [] X.env)).any (·.1) || (backToKw pos (keywordEach kws X.env)).any (·.1.isNone)) = false) :
    PE X (.Call (.Name x p) [] kws pos) (tCallG W sp ps dvs 0 kn tNil tk) := by
  refine ⟨fun pins s σ H Q I h => ?_⟩
  refine wpAny_Call_Name_kw (ld_glob I hg hm ?_ hdb)
  refine PySem.W.callWith_KW0 (h₀ := X.base) I.ok.mod.kin hk hall ?_ hpl
  refine thn (hkw.run pos pins s σ H _ I h) fun ws s2 ⟨ks, H2, I2, rk, q2⟩ => ⟨I2.kIn, ?_⟩
  obtain ⟨l1, l2, zs, e2, q3⟩ := q2
  rw [hks]
  exact run_fnG (us := []) F hr tkW hd sh I2 .nil rk (by rw [← rk.length]; exact l2) e2 q3
end
end OM
set_option Elab.async false
set_option linter.all false
set_option maxRecDepth 100000
set_option maxHeartbeats 1000000
/-! OmExpr: each construct of an expression, from its parts. -/
namespace OM
open PySem PySem.Spec PyProof.Rows L2

/-- what a body's context is -/
structure Scp where
  sc : Scope
  fn : Str → Bool
structure XOk (R : RP) (N : List Str) (c : Scp) (X : Cx) : Prop where
  hN : X.N = N
  nd : N.Nodup
  sc : X.env.scope = c.sc
  fn : X.fn = c.fn
  K : X.K = R.K
  calm : X.calm = true
  un : X.A.units + 64 < cLine

def isNm (sc : Scope) (k : NameKind) (x : Str) : Bool := match sc.names.lookup x with
  | some j => decide (j = k)
  | none => false
def noDbg (x : Str) : Bool := !(x == ("__debug__" : Str)) && !(x == ("__classdict__" : Str))
def chkVar (N : List Str) (sc : Scope) (i : Nat) (x : Str) : Bool := decide (N[i]? = some x) && (isNm sc .local x || (isNm sc .cell x || isNm sc .free x)) && noDbg x
def chkGl (sc : Scope) (x : Str) : Bool := isNm sc .globalImplicit x && noDbg x
/-- an expression that has no star -/
def noStar : Expr → Bool
  | .Starred _ _ => false
  | _ => true
def noSet : Expr → Bool
  | .Set _ _ _ => false
  | _ => true
def noSlice : Expr → Bool
  | .Slice _ _ _ _ => false
  | _ => true
def noSuper : Expr → Bool
  | .Call (.Name id _) [] [] _ => !(id == ("super" : Str))
  | _ => true
/-- an expression whose test is its value's truth -/
def plainTest : Expr → Bool
  | .UnaryOp .Not _ _ => false
  | .BoolOp _ _ _ => false
  | .IfExp _ _ _ _ => false
  | .Compare _ _ _ _ => false
  | _ => true

theorem isNm_iff {sc : Scope} {k : NameKind} {x : Str} (h : isNm sc k x = true) : sc.names.lookup x = some k := by
  unfold isNm at h
  split at h
  · rename_i j e
    rw [e, of_decide_eq_true h]
  · cases h
theorem star_of {e : Expr} {es : List Expr} {env : Env} (h : noStar e = true) : starEach (e :: es) env = (false, eval e env) :: starEach es env := by
  cases e <;> first | rfl | cases h
theorem behind_of {e : Expr} {op : CmpOp} (h : noSet e = true) : behindInMarks op e = false := by
  cases e <;> first | rfl | cases h
theorem folded_of {e : Expr} {env : Env} (h : noSet e = true) : ∀ x, foldedSetIterable e env x = pure x := by
  intro x
  cases e <;> first | rfl | cases h
theorem plainIx_of {e : Expr} (h : noSlice e = true) : PlainIx e := by
  intro o i
  cases e <;> first | rfl | cases h
theorem test_of {e : Expr} {env : Env} (h : plainTest e = true) : ∀ whole, isTrue e env whole = (do let v ← whole; standAt e.pos; holding [v] (truthy v)) := by
  intro whole
  cases e <;> first | rfl | cases h | skip
  rename_i op _ _
  cases op <;> first | rfl | cases h
theorem super_of {e : Expr} {m : Str} {env : Env} (h : noSuper e = true) (whole : Sem Value) : attributeBase e m env whole = whole := by
  unfold attributeBase
  split
  · rename_i id p pos
    unfold noSuper at h
    dsimp only at h
    rw [Bool.not_eq_true'] at h
    rw [if_pos (by simp [bne, h])]
  · rfl

section
variable {R : RP} {W : WX} {rs : List Nat} {X : Cx} {N : List Str} {c : Scp}

theorem se_slot {i : Nat} {x : Str} {pos : Pos} {C : Cxt} (ok : XOk R N c X) (h : chkVar N c.sc i x = true) : SE R W rs X (.Name x pos) (ev C rs (.slot i)) := by
  unfold chkVar noDbg at h
  simp only [Bool.and_eq_true, Bool.or_eq_true, Bool.not_eq_true', decide_eq_true_eq] at h
  obtain ⟨⟨h1, h2⟩, h3, h4⟩ := h
  have hv : Vis X.env.scope x := by
    rw [ok.sc]
    rcases h2 with h2 | h2 | h2
    · exact .inl (isNm_iff h2)
    · exact .inr (.inl (isNm_iff h2))
    · exact .inr (.inr (isNm_iff h2))
  refine (pe_var (i := i) (pos := pos) (by rw [ok.hN]; exact h1) hv h3 h4).imp fun st H Q ⟨r, F, S, h, hF, hs⟩ => ?_
  unfold ev at hs
  split at hs
  · rename_i d e
    obtain ⟨v, e2, q⟩ := hF.at_ i d e
    exact ⟨v, e2, hs.fin h q⟩
  · exact hs.elim
theorem se_bin {o : BinO} {a b : CE} {ea eb : Expr} {pos : Pos} {C : Cxt} (ok : XOk R N c X) (ha : SE R W rs X ea (ev C rs a)) (hb : SE R W rs X eb (ev C rs b)) : SE R W rs X (.BinOp ea (opOf o) eb pos) (ev C rs (.bin o a b)) := by
  refine (pe_op (pos := pos) (bin_r o) ha hb).imp fun st H Q ⟨r, F, S, h, hF, hs⟩ => ?_
  unfold ev at hs
  refine bindG h hF hs fun r1 S1 H1 x xv e1 h1 hF1 qx hs => bindG h1 hF1 hs fun r2 S2 H2 y yv e2 h2 hF2 qy hs => ?_
  rw [ok.K]
  exact bin_v o h2 (qx.ext e2) qy hs
theorem se_neg {a : CE} {ea : Expr} {pos : Pos} {C : Cxt} (ok : XOk R N c X) (ha : SE R W rs X ea (ev C rs a)) : SE R W rs X (.UnaryOp .USub ea pos) (ev C rs (.neg a)) := by
  refine (pe_un (pos := pos) un_neg ha).imp fun st H Q ⟨r, F, S, h, hF, hs⟩ => ?_
  unfold ev at hs
  refine bindG h hF hs fun r1 S1 H1 x xv e1 h1 hF1 qx hs => ?_
  split at hs
  · cases qx
    exact ⟨_, rfl, hs.fin h1 (.int _)⟩
  · exact hs.elim
theorem se_cmp {o : CmpO} {a b : CE} {ea eb : Expr} {pos : Pos} {C : Cxt} (ok : XOk R N c X) (ha : SE R W rs X ea (ev C rs a)) (hb : SE R W rs X eb (ev C rs b)) (ns : noSet eb = true) : SE R W rs X (.Compare ea [cmpOf o] [eb] pos) (ev C rs (.cmp o a b)) := by
  refine (pe_cmpR (pos := pos) (cmp_r ok.un o) ha hb (behind_of ns)).imp fun st H Q ⟨r, F, S, h, hF, hs⟩ => ?_
  unfold ev at hs
  refine bindG h hF hs fun r1 S1 H1 x xv e1 h1 hF1 qx hs => bindG h1 hF1 hs fun r2 S2 H2 y yv e2 h2 hF2 qy hs => ?_
  rw [ok.K]
  exact cmp_v o h2 (qx.ext e2) qy hs
/-- a comparison gives a bool -/
theorem vCmp_bl {o : CmpO} {x y d : D} {S S' : Sto} (h : vCmp o x y S = .ok d S') : ∃ b, d = .bl b ∧ S' = S := by
  unfold vCmp at h
  cases o <;> dsimp only at h <;> (repeat' split at h) <;> first | (cases h; exact ⟨_, rfl, rfl⟩) | cases h
theorem se_chain {o o' : CmpO} {a b d : CE} {ea eb ed : Expr} {pos : Pos} {C : Cxt} (ok : XOk R N c X) (ha : SE R W rs X ea (ev C rs a)) (hb : SE R W rs X eb (ev C rs b)) (hd : SE R W rs X ed (ev C rs d)) (ns : noSet ed = true) :
    SE R W rs X (.Compare ea [cmpOf o, cmpOf o'] [eb, ed] pos) (ev C rs (.chain o o' a b d)) := by
  refine (pe_chain (pos := pos) (cmp_r ok.un o) (cmp_r ok.un o') ha hb hd (behind_of ns)).imp fun st H Q ⟨r, F, S, h, hF, hs⟩ => ?_
  unfold ev at hs
  refine bindG h hF hs fun r1 S1 H1 x xv e1 h1 hF1 qx hs => bindG h1 hF1 hs fun r2 S2 H2 y yv e2 h2 hF2 qy hs => ?_
  rw [ok.K]
  refine cmp_v (W := W) (st := st) o h2 (qx.ext e2) qy ?_
  cases ec : vCmp o x y S2 with
  | bad => rw [ec] at hs; exact hs.elim
  | exc z S3 =>
    exfalso
    unfold vCmp at ec
    cases o <;> dsimp only at ec <;> (repeat' split at ec) <;> cases ec
  | ok t S3 =>
    obtain ⟨k, rfl, rfl⟩ := vCmp_bl ec
    rw [ec] at hs
    intro r3 H3 z e3 h3 qz
    cases qz
    refine ⟨k, rfl, ?_⟩
    have hF3 := hF2.ext e3
    have hs := Sat.shift e3 hs
    cases k with
    | true =>
      rw [if_pos rfl]
      refine bindG h3 hF3 hs fun r4 S4 H4 w wv e4 h4 hF4 qw hs => ?_
      exact cmp_v o' h4 ((qy.ext e3).ext e4) qw hs
    | false =>
      rw [if_neg Bool.false_ne_true]
      exact Sat.fin (a := D.bl false) hs h3 (.bl _)

/-! ### truth -/
theorem Out.bind_assoc {α β γ : Type} (o : Out α) (f : α → Sto → Out β) (g : β → Sto → Out γ) : (o.bind f).bind g = o.bind fun a S => (f a S).bind g := by
  cases o <;> rfl
def tst (o : Out D) : Out Bool := o.bind fun x S1 => match truth S1 x with
  | some b => .ok b S1
  | none => .bad
abbrev eqB (r : List Addr) (H : Hp) (a b : Bool) : Prop := a = b
def ST (R : RP) (W : WX) (rs : List Nat) (X : Cx) (e : Expr) (g : Fr → Sto → Out Bool) : Prop := PT X e (tG R W rs eqB g)
theorem bindTst {st : L2.St} {r : List Addr} {H : Hp} {S : Sto} {F : Fr} {g : Fr → Sto → Out D} {Q : Bool → Hp → Prop} {Q1 : V → Hp → Prop}
    (h : RS R rs r S H) (hF : RF R r H F st) (hs : Sat R W rs st r H eqB (tst (g F S)) Q)
    (k : ∀ r1 S1 H1 a x b, Ext r H r1 H1 → RS R rs r1 S1 H1 → RF R r1 H1 F st → Rep R r1 H1 a x → truth S1 a = some b → Q b H1 → Q1 x H1) : tG R W rs (Rep R) g st H Q1 := by
  refine bindG h hF hs fun r1 S1 H1 a x e1 h1 hF1 qx hs => ?_
  split at hs
  · rename_i b e
    exact k _ _ _ _ _ b e1 h1 hF1 qx e (Sat.fin (x := b) hs h1 rfl)
  · exact hs.elim
theorem st_plain {a : CE} {ea : Expr} {C : Cxt} (ok : XOk R N c X) (ha : SE R W rs X ea (ev C rs a)) (hp : plainTest ea = true) : ST R W rs X ea (fun F S => tst (ev C rs a F S)) := by
  refine (pt_truth ha (test_of hp)).imp fun st H Q ⟨r, F, S, h, hF, hs⟩ => ?_
  refine bindTst h hF hs fun r1 S1 H1 x xv b e1 h1 hF1 qx e q => ⟨b, ?_, q⟩
  rw [ok.K]
  exact truth_of h1 qx e
theorem se_not {a : CE} {ea : Expr} {pos : Pos} {C : Cxt} (ok : XOk R N c X) (ha : SE R W rs X ea (ev C rs a)) : SE R W rs X (.UnaryOp .Not ea pos) (ev C rs (.not a)) := by
  refine (pe_notT (pos := pos) ha).imp fun st H Q ⟨r, F, S, h, hF, hs⟩ => ?_
  unfold ev at hs
  refine bindG h hF hs fun r1 S1 H1 x xv e1 h1 hF1 qx hs => ?_
  split at hs
  · rename_i b e
    rw [ok.K]
    exact ⟨b, truth_of h1 qx e, hs.fin h1 (.bl _)⟩
  · exact hs.elim
theorem st_not {a : CE} {ea : Expr} {pos : Pos} {C : Cxt} (ok : XOk R N c X) (ha : ST R W rs X ea (fun F S => tst (ev C rs a F S))) : ST R W rs X (.UnaryOp .Not ea pos) (fun F S => tst (ev C rs (.not a) F S)) := by
  refine (pt_not (pos := pos) ha).imp fun st H Q ⟨r, F, S, h, hF, hs⟩ => ?_
  refine ⟨r, F, S, h, hF, ?_⟩
  simp only [tst, ev, Out.bind_assoc] at hs ⊢
  cases ea' : ev C rs a F S with
  | bad => rw [ea'] at hs; exact hs
  | exc x S1 => rw [ea'] at hs; exact hs
  | ok x S1 =>
    rw [ea'] at hs
    simp only [Out.bind] at hs ⊢
    cases t : truth S1 x with
    | none => rw [t] at hs; exact hs
    | some b =>
      rw [t] at hs
      simp only [truth] at hs
      intro r' H' v e' h' q
      exact hs r' H' (!v) e' h' (by rw [← (show b = v from q)])
theorem st_cmp {o : CmpO} {a b : CE} {ea eb : Expr} {pos : Pos} {C : Cxt} (ok : XOk R N c X) (ha : SE R W rs X ea (ev C rs a)) (hb : SE R W rs X eb (ev C rs b)) (ns : noSet eb = true) : ST R W rs X (.Compare ea [cmpOf o] [eb] pos) (fun F S => tst (ev C rs (.cmp o a b) F S)) := by
  refine (pt_cmpR (pos := pos) (cmp_r ok.un o) ha hb (behind_of ns)).imp fun st H Q ⟨r, F, S, h, hF, hs⟩ => ?_
  simp only [tst, ev, Out.bind_assoc] at hs
  refine bindG h hF hs fun r1 S1 H1 x xv e1 h1 hF1 qx hs => bindG h1 hF1 hs fun r2 S2 H2 y yv e2 h2 hF2 qy hs => ?_
  rw [ok.K]
  refine cmp_v (W := W) (st := st) o h2 (qx.ext e2) qy ?_
  cases ec : vCmp o x y S2 with
  | bad => rw [ec] at hs; exact hs.elim
  | exc z S3 =>
    exfalso
    unfold vCmp at ec
    cases o <;> dsimp only at ec <;> (repeat' split at ec) <;> cases ec
  | ok t S3 =>
    obtain ⟨k, rfl, rfl⟩ := vCmp_bl ec
    rw [ec] at hs
    intro r3 H3 z e3 h3 qz
    cases qz
    exact ⟨k, rfl, Sat.fin (a := k) (Sat.shift e3 hs) h3 rfl⟩
end
end OM
set_option Elab.async false
set_option linter.all false
set_option maxRecDepth 100000
set_option maxHeartbeats 1000000
/-! OmExpr2: and, or, conditions, argument lists, calls, displays. -/
namespace OM
open PySem PySem.Spec PyProof.Rows L2

section
variable {R : RP} {W : WX} {rs : List Nat} {X : Cx} {N : List Str} {c : Scp}
def bopOf (k : Bool) : BoolOp := if k then .And else .Or
theorem sb_one {k : Bool} {a : CE} {ea : Expr} {op : BoolOp} {pos : Pos} {C : Cxt} (ha : SE R W rs X ea (ev C rs a)) : PE X (.BoolOp op [ea] pos) (tG R W rs (Rep R) (evB C rs k [a])) := by
  refine (pe_one (pos := pos) ha).imp fun st H Q ⟨r, F, S, h, hF, hs⟩ => ⟨r, F, S, h, hF, ?_⟩
  simpa only [evB] using hs
theorem sb_cons {k : Bool} {a b : CE} {r : List CE} {ea eb : Expr} {er : List Expr} {pos : Pos} {C : Cxt} (ok : XOk R N c X) (ha : SE R W rs X ea (ev C rs a)) (hb : PE X (.BoolOp (bopOf k) (eb :: er) pos) (tG R W rs (Rep R) (evB C rs k (b :: r)))) :
    PE X (.BoolOp (bopOf k) (ea :: eb :: er) pos) (tG R W rs (Rep R) (evB C rs k (a :: b :: r))) := by
  cases k with
  | true =>
    refine (pe_andT (pos := pos) ha hb).imp fun st H Q ⟨r, F, S, h, hF, hs⟩ => ?_
    unfold evB at hs
    refine bindG h hF hs fun r1 S1 H1 x xv e1 h1 hF1 qx hs => ?_
    split at hs
    · rename_i t e
      rw [ok.K]
      refine ⟨t, truth_of h1 qx e, ?_⟩
      cases t with
      | true => exact iteT ⟨r1, F, S1, h1, hF1, hs⟩
      | false => exact iteF (hs.fin h1 qx)
    · exact hs.elim
  | false =>
    refine (pe_orT (pos := pos) ha hb).imp fun st H Q ⟨r, F, S, h, hF, hs⟩ => ?_
    unfold evB at hs
    refine bindG h hF hs fun r1 S1 H1 x xv e1 h1 hF1 qx hs => ?_
    split at hs
    · rename_i t e
      rw [ok.K]
      refine ⟨t, truth_of h1 qx e, ?_⟩
      cases t with
      | true => exact iteT (hs.fin h1 qx)
      | false => exact iteF ⟨r1, F, S1, h1, hF1, hs⟩
    · exact hs.elim
/-- a list of tests under and, or -/
theorem tb_one {k : Bool} {a : CE} {ea : Expr} {pos : Pos} {C : Cxt} (ha : ST R W rs X ea (fun F S => tst (ev C rs a F S))) : PW X (.BoolOp (bopOf k) [ea] pos) (tG R W rs eqB fun F S => tst (evB C rs k [a] F S)) := by
  have e : (fun F S => tst (evB C rs k [a] F S)) = fun F S => tst (ev C rs a F S) := by
    funext F S
    simp only [evB]
  rw [e]
  cases k with
  | true => exact pw_and1 ha
  | false => exact pw_or1 ha
theorem tst_ok {x : D} {S : Sto} {t : Bool} (e : truth S x = some t) : tst (.ok x S) = .ok t S := by
  simp only [tst, Out.bind, e]
theorem tb_cons {k : Bool} {a b : CE} {r : List CE} {ea eb : Expr} {er : List Expr} {pos : Pos} {C : Cxt} (ha : ST R W rs X ea (fun F S => tst (ev C rs a F S))) (hb : PW X (.BoolOp (bopOf k) (eb :: er) pos) (tG R W rs eqB fun F S => tst (evB C rs k (b :: r) F S))) :
    PW X (.BoolOp (bopOf k) (ea :: eb :: er) pos) (tG R W rs eqB fun F S => tst (evB C rs k (a :: b :: r) F S)) := by
  have key : ∀ (st : L2.St) (H : Hp) (Q : Bool → Hp → Prop) (r0 : List Addr) (F : Fr) (S : Sto), RS R rs r0 S H → RF R r0 H F st → Sat R W rs st r0 H eqB (tst (evB C rs k (a :: b :: r) F S)) Q →
      tG R W rs eqB (fun F S => tst (ev C rs a F S)) st H fun t H1 => if t = k then tG R W rs eqB (fun F S => tst (evB C rs k (b :: r) F S)) st H1 Q else Q t H1 := by
    intro st H Q r0 F S h hF hs
    refine ⟨r0, F, S, h, hF, ?_⟩
    cases ea' : ev C rs a F S with
    | bad => simp only [evB, ea', tst, Out.bind] at hs; exact hs.elim
    | exc x S1 => simp only [evB, ea', tst, Out.bind] at hs ⊢; exact hs
    | ok x S1 =>
      simp only [evB, ea', tst, Out.bind] at hs ⊢
      cases e : truth S1 x with
      | none => rw [e] at hs; exact hs.elim
      | some t =>
        rw [e] at hs
        dsimp only at hs ⊢
        intro r1 H1 v e1 h1 q
        have q : t = v := q
        subst q
        have hF1 := hF.ext e1
        have hs := Sat.shift e1 hs
        by_cases hk : t = k
        · rw [if_pos hk]
          subst hk
          rw [beq_self_eq_true, if_pos rfl] at hs
          exact ⟨r1, F, S1, h1, hF1, hs⟩
        · rw [if_neg hk]
          rw [if_neg (by simpa using hk)] at hs
          simp only [e] at hs
          exact Sat.fin (a := t) hs h1 rfl
  cases k with
  | true =>
    refine ⟨fun wh pins s st H Q I ⟨r0, F, S, h, hF, hs⟩ => ?_⟩
    refine (pw_and (pos := pos) ha hb).run wh pins s st H Q I ?_
    obtain ⟨r1, F1, S1, k1, k2, k3⟩ := key st H Q r0 F S h hF hs
    refine ⟨r1, F1, S1, k1, k2, ?_⟩
    have ee : (fun (t : Bool) H1 => if t = true then tG R W rs eqB (fun F S => tst (evB C rs true (b :: r) F S)) st H1 Q else Q t H1) = fun t H1 => if t = true then tG R W rs eqB (fun F S => tst (evB C rs true (b :: r) F S)) st H1 Q else Q false H1 := by
      funext t H1
      cases t <;> rfl
    rw [← ee]
    exact k3
  | false =>
    refine ⟨fun wh pins s st H Q I ⟨r0, F, S, h, hF, hs⟩ => ?_⟩
    refine (pw_or (pos := pos) ha hb).run wh pins s st H Q I ?_
    obtain ⟨r1, F1, S1, k1, k2, k3⟩ := key st H Q r0 F S h hF hs
    refine ⟨r1, F1, S1, k1, k2, ?_⟩
    have ee : (fun (t : Bool) H1 => if t = false then tG R W rs eqB (fun F S => tst (evB C rs false (b :: r) F S)) st H1 Q else Q t H1) = fun t H1 => if t = true then Q true H1 else tG R W rs eqB (fun F S => tst (evB C rs false (b :: r) F S)) st H1 Q := by
      funext t H1
      cases t <;> rfl
    rw [← ee]
    exact k3

/-! ### a if c else b -/
theorem ite_tst {cc a b : CE} {C : Cxt} {F : Fr} {S : Sto} : ev C rs (.ite cc a b) F S = (tst (ev C rs cc F S)).bind fun t S1 => if t then ev C rs a F S1 else ev C rs b F S1 := by
  simp only [ev, tst, Out.bind_assoc]
  congr 1
  funext x S1
  cases truth S1 x with
  | none => rfl
  | some t => cases t <;> rfl
theorem se_ite {cc a b : CE} {ec ea eb : Expr} {pos : Pos} {C : Cxt} (hc : ST R W rs X ec (fun F S => tst (ev C rs cc F S))) (ha : SE R W rs X ea (ev C rs a)) (hb : SE R W rs X eb (ev C rs b)) : SE R W rs X (.IfExp ec ea eb pos) (ev C rs (.ite cc a b)) := by
  refine (pe_ifExp (pos := pos) hc ha hb).imp fun st H Q ⟨r, F, S, h, hF, hs⟩ => ?_
  rw [ite_tst] at hs
  refine bindG h hF hs fun r1 S1 H1 t tv e1 h1 hF1 qt hs => ?_
  have qt : t = tv := qt
  subst qt
  cases t with
  | true => exact iteT ⟨r1, F, S1, h1, hF1, hs⟩
  | false => exact iteF ⟨r1, F, S1, h1, hF1, hs⟩
theorem pt_ifExp {cc a b : Expr} {pos : Pos} {tA ta tb : TT} (hc : PT X cc tA) (ha : PT X a ta) (hb : PT X b tb) : PT X (.IfExp cc a b pos) (fun st H Q => tA st H fun t H1 => if t = true then ta st H1 Q else tb st H1 Q) := by
  refine ⟨fun pins s σ H Q I h => ?_⟩
  refine isTrue_IfExp (thn (hc.run pins s σ H _ I h) fun d s1 ⟨H1, I1, q1⟩ => ?_)
  cases d with
  | true => exact ha.run pins s1 σ H1 Q I1 q1
  | false => exact hb.run pins s1 σ H1 Q I1 q1
theorem st_ite {cc a b : CE} {ec ea eb : Expr} {pos : Pos} {C : Cxt} (hc : ST R W rs X ec (fun F S => tst (ev C rs cc F S))) (ha : ST R W rs X ea (fun F S => tst (ev C rs a F S))) (hb : ST R W rs X eb (fun F S => tst (ev C rs b F S))) : ST R W rs X (.IfExp ec ea eb pos) (fun F S => tst (ev C rs (.ite cc a b) F S)) := by
  refine (pt_ifExp (pos := pos) hc ha hb).imp fun st H Q ⟨r, F, S, h, hF, hs⟩ => ?_
  have e : tst (ev C rs (.ite cc a b) F S) = (tst (ev C rs cc F S)).bind fun t S1 => if t then tst (ev C rs a F S1) else tst (ev C rs b F S1) := by
    rw [ite_tst]
    show Out.bind _ _ = _
    rw [Out.bind_assoc]
    congr 1
    funext t S1
    cases t <;> rfl
  have hs : Sat R W rs st r H eqB (tst (ev C rs (.ite cc a b) F S)) Q := hs
  rw [e] at hs
  refine bindG h hF hs fun r1 S1 H1 t tv e1 h1 hF1 qt hs => ?_
  have qt : t = tv := qt
  subst qt
  cases t with
  | true => exact iteT ⟨r1, F, S1, h1, hF1, hs⟩
  | false => exact iteF ⟨r1, F, S1, h1, hF1, hs⟩

/-! ### argument lists, displays -/
def SA (R : RP) (W : WX) (rs : List Nat) (X : Cx) (es : List Expr) (g : Fr → Sto → Out (List D)) : Prop := PA X es (tG R W rs (Reps R) g)
theorem sa_nil {C : Cxt} : SA R W rs X [] (evL C rs []) := by
  refine pa_nil.imp fun st H Q ⟨r, F, S, h, hF, hs⟩ => ?_
  simp only [evL] at hs
  exact Sat.fin hs h .nil
theorem sa_cons {a : CE} {as : List CE} {ea : Expr} {es : List Expr} {C : Cxt} (ha : SE R W rs X ea (ev C rs a)) (hs : SA R W rs X es (evL C rs as)) (ns : noStar ea = true) : SA R W rs X (ea :: es) (evL C rs (a :: as)) := by
  refine (pa_cons ha hs (star_of ns)).imp fun st H Q ⟨r, F, S, h, hF, hs⟩ => ?_
  simp only [evL] at hs
  refine bindG h hF hs fun r1 S1 H1 x xv e1 h1 hF1 qx hs => bindG h1 hF1 hs fun r2 S2 H2 xs vs e2 h2 hF2 qs hs => ?_
  exact Sat.fin hs h2 (.cons (qx.ext e2) qs)
def SK (R : RP) (W : WX) (rs : List Nat) (X : Cx) (ks : List Keyword) (g : Fr → Sto → Out (List D)) : Prop := PK X ks (tG R W rs (Reps R) g)
theorem PK.imp {kws : List Keyword} {t t' : TA} (h : PK X kws t) (k : ∀ st H Q, t' st H Q → t st H Q) : PK X kws t' := ⟨fun pos pins s st H Q I q => h.run pos pins s st H Q I (k _ _ _ q)⟩
theorem sk_nil {C : Cxt} : SK R W rs X [] (evL C rs []) := by
  refine PK.imp pk_nil fun st H Q ⟨r, F, S, h, hF, hs⟩ => ?_
  simp only [evL] at hs
  exact Sat.fin hs h .nil
theorem sk_cons {a : CE} {as : List CE} {nm : Option Str} {ea : Expr} {kp : Pos} {ks : List Keyword} {C : Cxt} (ha : SE R W rs X ea (ev C rs a)) (hs : SK R W rs X ks (evL C rs as)) : SK R W rs X (⟨nm, ea, kp⟩ :: ks) (evL C rs (a :: as)) := by
  refine PK.imp (pk_cons ha hs) fun st H Q ⟨r, F, S, h, hF, hs⟩ => ?_
  simp only [evL] at hs
  refine bindG h hF hs fun r1 S1 H1 x xv e1 h1 hF1 qx hs => bindG h1 hF1 hs fun r2 S2 H2 xs vs e2 h2 hF2 qs hs => ?_
  exact Sat.fin hs h2 (.cons (qx.ext e2) qs)
theorem se_tup {as : List CE} {es : List Expr} {k : Nat} {pos : Pos} {C : Cxt} (hs : SA R W rs X es (evL C rs as)) : SE R W rs X (.Tuple es k pos) (ev C rs (.tup as)) := by
  refine (pe_tup (pos := pos) hs).imp fun st H Q ⟨r, F, S, h, hF, hs⟩ => ?_
  simp only [ev] at hs
  refine bindG h hF hs fun r1 S1 H1 xs vs e1 h1 hF1 qs hs => ?_
  obtain ⟨hl, hs⟩ := okIf_sat hs
  exact ⟨by rw [← qs.length, ← line_eq]; exact of_decide_eq_true hl, hs.newT h1 qs⟩
theorem se_lst {mu : Bool} {as : List CE} {es : List Expr} {pos : Pos} {C : Cxt} (hs : SA R W rs X es (evL C rs as)) : SE R W rs X (.List es pos) (ev C rs (.lst mu as)) := by
  refine (pe_lst (pos := pos) hs).imp fun st H Q ⟨r, F, S, h, hF, hs⟩ => ?_
  simp only [ev] at hs
  refine bindG h hF hs fun r1 S1 H1 xs vs e1 h1 hF1 qs hs => ?_
  exact hs.mkL h1 qs
theorem se_idx {a b : CE} {ea eb : Expr} {pos : Pos} {C : Cxt} (ok : XOk R N c X) (ha : SE R W rs X ea (ev C rs a)) (hb : SE R W rs X eb (ev C rs b)) (ns : noSlice eb = true) : SE R W rs X (.Subscript ea eb pos) (ev C rs (.idx a b)) := by
  refine (pe_ix (pos := pos) ix_r ha hb (plainIx_of ns)).imp fun st H Q ⟨r, F, S, h, hF, hs⟩ => ?_
  simp only [ev] at hs
  refine bindG h hF hs fun r1 S1 H1 x xv e1 h1 hF1 qx hs => bindG h1 hF1 hs fun r2 S2 H2 y yv e2 h2 hF2 qy hs => ?_
  rw [ok.K]
  exact ix_v h2 (qx.ext e2) qy hs
/-- a slice's part -/
def SO (R : RP) (W : WX) (rs : List Nat) (X : Cx) (e : Option Expr) (g : Fr → Sto → Out (Option Int)) : Prop := PO X e (tG R W rs (fun _ _ a b => a = b) g)
theorem PO.imp {e : Option Expr} {t t' : TO} (h : PO X e t) (k : ∀ st H Q, t' st H Q → t st H Q) : PO X e t' := ⟨fun pins s st H Q I q => h.run pins s st H Q I (k _ _ _ q)⟩
theorem so_none {C : Cxt} : SO R W rs X none (evO C rs []) := by
  refine PO.imp po_none fun st H Q ⟨r, F, S, h, hF, hs⟩ => ?_
  simp only [evO] at hs
  exact Sat.fin (x := none) hs h rfl
theorem so_some {a : CE} {as : List CE} {ea : Expr} {C : Cxt} (ha : SE R W rs X ea (ev C rs a)) : SO R W rs X (some ea) (evO C rs (a :: as)) := by
  refine PO.imp (po_some ha) fun st H Q ⟨r, F, S, h, hF, hs⟩ => ?_
  simp only [evO] at hs
  refine bindG h hF hs fun r1 S1 H1 x xv e1 h1 hF1 qx hs => ?_
  split at hs
  · rename_i i
    cases qx
    exact ⟨i, rfl, Sat.fin (x := some i) hs h1 rfl⟩
  · exact hs.elim
theorem se_sli {a : CE} {lo hi : List CE} {ea : Expr} {el eh : Option Expr} {pos p2 : Pos} {C : Cxt} (ok : XOk R N c X) (ha : SE R W rs X ea (ev C rs a)) (hl : SO R W rs X el (evO C rs lo)) (hh : SO R W rs X eh (evO C rs hi)) : SE R W rs X (.Subscript ea (.Slice el eh none p2) pos) (ev C rs (.sli a lo hi)) := by
  refine (pe_slice (pos := pos) (p2 := p2) sl_r ha hl hh).imp fun st H Q ⟨r, F, S, h, hF, hs⟩ => ?_
  simp only [ev] at hs
  refine bindG h hF hs fun r1 S1 H1 x xv e1 h1 hF1 qx hs => bindG h1 hF1 hs fun r2 S2 H2 l lv e2 h2 hF2 ql hs => bindG h2 hF2 hs fun r3 S3 H3 u uv e3 h3 hF3 qu hs => ?_
  have ql : l = lv := ql
  have qu : u = uv := qu
  subst ql; subst qu
  rw [ok.K]
  exact sl_v h3 ((qx.ext e2).ext e3) hs
theorem se_bmeth {b : Bm} {o : CE} {as : List CE} {eo ea : Expr} {es : List Expr} {apos pos : Pos} {C : Cxt} (ok : XOk R N c X) (ho : SE R W rs X eo (ev C rs o)) (hs : SA R W rs X (ea :: es) (evL C rs as)) (nsup : noSuper eo = true) (hl : (apos.endLine == pos.line) = true)
    (hst : noStar ea = true) (hst2 : es.all noStar = true) (hlen : es.length < 20) (pa : PlainAttrs (bmT b)) (slot : Slot (bmT b) (bmN b) (bmId b)) (hty : typeOf (.builtin (bmId b)) = pure (.type "method_descriptor")) :
    SE R W rs X (.Call (.Attribute eo (bmN b) apos) (ea :: es) [] pos) (ev C rs (.bmeth b o as)) := by
  have all : ∀ es : List Expr, es.all noStar = true → (backTo pos (starEach es X.env)).any (·.1) = false ∧ (backTo pos (starEach es X.env)).all (fun x => !x.1) = true := by
    intro es
    induction es with
    | nil => intro _; exact ⟨rfl, rfl⟩
    | cons e r ih =>
      intro h
      rw [List.all_cons, Bool.and_eq_true] at h
      rw [star_of h.1]
      obtain ⟨i1, i2⟩ := ih h.2
      unfold backTo at i1 i2 ⊢
      rw [List.map_cons, List.any_cons, List.all_cons, i1, i2]
      exact ⟨rfl, rfl⟩
  have hall : (ea :: es).all noStar = true := by rw [List.all_cons, hst, hst2]; rfl
  refine (pe_bm pa slot hty (bm_r b) ho hs (super_of nsup _) ?_ hl (star_of hst) (all es hst2).1).imp fun st H Q ⟨r, F, S, h, hF, hs⟩ => ?_
  · rw [(all (ea :: es) hall).2]
    simp only [List.length_cons, Bool.true_and]
    have : (backToKw pos (keywordEach [] X.env)).all (fun x => x.1.isSome) = true := rfl
    rw [this]
    simp
    omega
  · simp only [ev] at hs
    refine bindG h hF hs fun r1 S1 H1 x xv e1 h1 hF1 qx hs => ?_
    split at hs
    · rename_i bk
      rw [ok.K]
      refine ⟨bm_ty b h1 qx bk, ?_⟩
      refine bindG h1 hF1 hs fun r2 S2 H2 xs vs e2 h2 hF2 qs hs => ?_
      exact bm_v b h2 (qx.ext e2) qs hs
    · exact hs.elim
end
end OM
set_option Elab.async false
set_option linter.all false
set_option maxRecDepth 100000
set_option maxHeartbeats 1000000
/-! OmExpr3: constants, globals, built-in calls, isinstance, calls of defs; what a law's world is. -/
namespace OM
open PySem PySem.Spec PyProof.Rows L2

/-- what a law's text is, by ids -/
structure Sta where
  gn : List Str
  an : List Str
  fd : Nat → Option FD
  shp : Nat → List (Nat × List Nat)
  bl : List Str
def nmAt (l : List Str) (i : Nat) : Str := l.getD i ⟨#[]⟩
structure Wld (R : RP) (T : Sta) (C : Cxt) (P : Program) (w : World) (K : PySem.W.Frag) (mg : Str → Option Value) (base : Heap) (A : Around) : Prop where
  an : R.an = nmAt T.an
  call : ∀ f F, T.fd f = some F → ∃ k fa fd dvs dw, mg (nmAt T.gn f) = some (.ref fa) ∧ PySem.W.keepIn K (.ref fa) = true ∧ FnOk P w K mg base (L2.CX P w) k fa fd (F.ps.map (nmAt T.an)) (spOf R F.ps.length (C.call f)) ∧ Room k A ∧
    (∀ hid r H, Reps (R.h hid) r H F.dv dvs) ∧ Vals dvs dw ∧ ∀ q ∈ T.shp f, Shape K (nmAt T.an) fd F.ps dw q.1 q.2
  pars : ∀ f, C.pars f = (T.fd f).map fun F => (F.ps, F.dv)
  glob : ∀ g d, C.glob g = some d → ∃ u v, mg (nmAt T.gn g) = some u ∧ RelV v u ∧ ∀ hid r H, Rep (R.h hid) r H d v
  bl : ∀ x ∈ T.bl, mg x = none
abbrev WldX (R : RP) (T : Sta) (C : Cxt) (X : Cx) : Prop := Wld R T C X.prog X.w X.K X.mg X.base X.A

def biN : Bi → String
  | .len => "len"
  | .all => "all"
  | .any => "any"
  | .int => "int"
  | .str => "str"
  | .bool => "bool"
  | .list => "list"
  | .tuple => "tuple"
  | .sorted => "sorted"
  | .sum => "sum"
  | .max => "max"
  | .min => "min"
  | .repr => "repr"
theorem bi_boot : ∀ b : Bi, bootBuiltins (biN b) = some (biV b) := by
  intro b
  cases b <;> decide +kernel
theorem ty_boot : ∀ t : Fin 7, t.val ≠ 0 → bootBuiltins (tyN t.val) = some (.type (tyN t.val)) := by decide +kernel
theorem isi_boot : bootBuiltins "isinstance" = some (.builtin "isinstance") := by decide +kernel
theorem noDbg_iff {x : Str} (h : noDbg x = true) : (x == ("__debug__" : Str)) = false ∧ (x == ("__classdict__" : Str)) = false := by
  unfold noDbg at h
  simp only [Bool.and_eq_true, Bool.not_eq_true'] at h
  exact h
section
variable {R : RP} {W : WX} {rs : List Nat} {X : Cx} {N : List Str} {c : Scp}
theorem gl_of (ok : XOk R N c X) {x : Str} (h : chkGl c.sc x = true) : Gl X x ∧ (x == ("__debug__" : Str)) = false := by
  unfold chkGl at h
  rw [Bool.and_eq_true] at h
  refine ⟨?_, (noDbg_iff h.2).1⟩
  show X.env.scope.names.lookup x = _
  rw [ok.sc]
  exact isNm_iff h.1
/-- constants -/
def cstOk : D → Expr → Bool
  | .non, .Constant .none _ _ => true
  | .bl b, .Constant (.bool b') _ _ => b == b'
  | .int i, .Constant (.int j) _ _ => decide (i = j)
  | .str x, .Constant (.str y) _ _ => decide (mkS x = y) && okS x
  | _, _ => false
theorem se_cst {d : D} {e : Expr} {C : Cxt} (h : cstOk d e = true) : SE R W rs X e (ev C rs (.cst d)) := by
  unfold cstOk at h
  split at h
  · refine pe_non.imp fun st H Q ⟨r, F, S, h, hF, hs⟩ => ?_
    simp only [ev] at hs
    exact hs.fin h .non
  · have h := eq_of_beq h
    subst h
    refine pe_bl.imp fun st H Q ⟨r, F, S, h, hF, hs⟩ => ?_
    simp only [ev] at hs
    exact hs.fin h (.bl _)
  · have h := of_decide_eq_true h
    subst h
    refine pe_int.imp fun st H Q ⟨r, F, S, h, hF, hs⟩ => ?_
    simp only [ev] at hs
    exact hs.fin h (.int _)
  · rw [Bool.and_eq_true] at h
    obtain ⟨h1, h2⟩ := h
    have h1 := of_decide_eq_true h1
    subst h1
    refine pe_str.imp fun st H Q ⟨r, F, S, h, hF, hs⟩ => ?_
    simp only [ev] at hs
    exact hs.fin h (.str h2)
  · cases h
theorem se_ty {k : Nat} {x : Str} {pos : Pos} {C : Cxt} {T : Sta} (ok : XOk R N c X) (wd : WldX R T C X) (hk : k < 7) (h0 : k ≠ 0) (hx : x = (tyN k : Str)) (hg : chkGl c.sc x = true) (hb : x ∈ T.bl) : SE R W rs X (.Name x pos) (ev C rs (.cst (.ty k))) := by
  obtain ⟨g1, g2⟩ := gl_of ok hg
  have e := ty_boot ⟨k, hk⟩ h0
  refine (pe_bltn (pos := pos) (v := .ty (tyN k)) g1 (wd.bl x hb) (by rw [hx]; exact e) rfl (fun z => ?_) g2).imp fun st H Q ⟨r, F, S, h, hF, hs⟩ => ?_
  · have hn : ∀ t : Fin 7, ((tyN t.val : Str)) ≠ ("__name__" : Str) := by decide +kernel
    exact hn ⟨k, hk⟩ (hx.symm.trans z)
  · simp only [ev] at hs
    exact hs.fin h (.ty _)
theorem se_glo {g : Nat} {x : Str} {pos : Pos} {C : Cxt} {T : Sta} (ok : XOk R N c X) (wd : WldX R T C X) (hx : nmAt T.gn g = x) (hg : chkGl c.sc x = true) : SE R W rs X (.Name x pos) (ev C rs (.glo g)) := by
  obtain ⟨g1, g2⟩ := gl_of ok hg
  refine ⟨fun pins s st H Q I ⟨r, F, S, h, hF, hs⟩ => ?_⟩
  simp only [ev] at hs
  split at hs
  · rename_i d e
    obtain ⟨u, v, m, rv, q⟩ := wd.glob g d e
    have q' : Rep R r H d v := q R.hid r H
    exact (pe_glob (pos := pos) g1 (by rw [← hx]; exact m) rv g2).run pins s st H Q I (hs.fin h q')
  · exact hs.elim

/-! ### built-in functions -/
theorem se_bcall {mu : Bool} {b : Bi} {as : List CE} {ea : Expr} {es : List Expr} {x : Str} {p pos : Pos} {C : Cxt} {T : Sta} (ok : XOk R N c X) (wd : WldX R T C X) (hs : SA R W rs X (ea :: es) (evL C rs as)) (hx : x = (biN b : Str)) (hg : chkGl c.sc x = true) (hb : x ∈ T.bl)
    (hst : noStar ea = true) (hst2 : es.all noStar = true) : SE R W rs X (.Call (.Name x p) (ea :: es) [] pos) (ev C rs (.bcall mu b as)) := by
  obtain ⟨g1, g2⟩ := gl_of ok hg
  have hn : x ≠ ("__name__" : Str) := by
    rw [hx]
    cases b <;> decide +kernel
  have hpl : (backTo pos (starEach es X.env)).any (·.1) = false := by
    clear hs
    induction es with
    | nil => rfl
    | cons e r ih =>
      rw [List.all_cons, Bool.and_eq_true] at hst2
      rw [star_of hst2.1]
      have i1 := ih hst2.2
      unfold backTo at i1 ⊢
      rw [List.map_cons, List.any_cons, i1]
      rfl
  have base : PE X (.Call (.Name x p) (ea :: es) [] pos) (tCB (rBi X.K b) (tG R W rs (Reps R) (evL C rs as))) := by
    have hc := bi_r (X := X) ok.calm b
    have hv : bootBuiltins x = some (biV b) := by rw [hx]; exact bi_boot b
    cases b <;> first
      | exact pe_callB hc g1 (wd.bl x hb) hv hs hn g2 (star_of hst) hpl
      | exact pe_callTy hc g1 (wd.bl x hb) hv hs hn g2 (star_of hst) hpl
  refine base.imp fun st H Q ⟨r, F, S, h, hF, hs⟩ => ?_
  simp only [ev] at hs
  refine bindG h hF hs fun r1 S1 H1 xs vs e1 h1 hF1 qs hs => ?_
  rw [ok.K]
  exact bi_v mu b h1 qs hs

theorem evL_len {C : Cxt} {F : Fr} : ∀ {as : List CE} {S S' : Sto} {xs : List D}, evL C rs as F S = .ok xs S' → xs.length = as.length
  | [], S, S', xs, e => by
    simp only [evL] at e
    cases e
    rfl
  | a :: as, S, S', xs, e => by
    simp only [evL] at e
    cases e1 : ev C rs a F S with
    | bad => rw [e1] at e; cases e
    | exc x S1 => rw [e1] at e; cases e
    | ok x S1 =>
      rw [e1] at e
      simp only [Out.bind] at e
      cases e2 : evL C rs as F S1 with
      | bad => rw [e2] at e; cases e
      | exc x S1 => rw [e2] at e; cases e
      | ok ys S2 =>
        rw [e2] at e
        cases e
        rw [List.length_cons, List.length_cons, evL_len e2]

/-! ### isinstance -/
theorem isInst_one {S : Sto} {x : D} {t : Nat} {b : Bool} (e : isInst S x [.ty t] = some b) : ∃ k, kindOf S x = some k ∧ t < 7 ∧ b = kindIn k t := by
  simp only [isInst] at e
  cases e1 : kindOf S x with
  | none => rw [e1] at e; cases e
  | some k =>
    rw [e1] at e
    dsimp only at e
    by_cases ht : t < 7
    · rw [if_pos ht] at e
      cases e
      exact ⟨k, rfl, ht, by rw [Bool.or_false]⟩
    · rw [if_neg ht] at e; cases e
theorem call2_pl {e1 e2 : Expr} {pos : Pos} (h2 : noStar e2 = true) : (backTo pos (starEach [e2] X.env)).any (·.1) = false := by
  rw [star_of h2]
  rfl
theorem se_isin1 {a t : CE} {ea et : Expr} {x : Str} {p pos : Pos} {C : Cxt} {T : Sta} (ok : XOk R N c X) (wd : WldX R T C X) (ha : SE R W rs X ea (ev C rs a)) (ht : SE R W rs X et (ev C rs t)) (hx : x = ("isinstance" : Str)) (hg : chkGl c.sc x = true) (hb : x ∈ T.bl)
    (s1 : noStar ea = true) (s2 : noStar et = true) : SE R W rs X (.Call (.Name x p) [ea, et] [] pos) (ev C rs (.isin a [t])) := by
  obtain ⟨g1, g2⟩ := gl_of ok hg
  refine (pe_callB (pos := pos) (p := p) call_isi g1 (wd.bl x hb) (by rw [hx]; exact isi_boot) (pa_cons ha (pa_cons ht pa_nil (star_of s2)) (star_of s1)) (by rw [hx]; decide +kernel) g2 (star_of s1) (call2_pl (e1 := ea) s2)).imp fun st H Q ⟨r, F, S, h, hF, hs⟩ => ?_
  simp only [ev, evL, Out.bind_assoc] at hs
  refine bindG h hF hs fun r1 S1 H1 y yv e1 h1 hF1 qy hs => bindG h1 hF1 hs fun r2 S2 H2 z zv e2 h2 hF2 qz hs => ?_
  simp only [Out.bind] at hs
  split at hs
  · rename_i b e
    cases qz with
    | ty k =>
      obtain ⟨j, k1, k2, rfl⟩ := isInst_one e
      have qy2 := qy.ext e2
      obtain ⟨ty, hj⟩ := kind_of h2 qy2 k1
      refine ⟨yv, _, .type (tyN j), _, _, rfl, .ty _, ?_, ?_, hs.fin h2 (.bl _)⟩
      · rw [ok.K]; exact ty
      · rw [ok.K]; exact kit_k hj k2
    | _ => simp [isInst] at e
  · exact hs.elim
theorem se_isinT {a : CE} {ts : List CE} {ea : Expr} {ets : List Expr} {kk : Nat} {x : Str} {p pos p2 : Pos} {C : Cxt} {T : Sta} (ok : XOk R N c X) (wd : WldX R T C X) (ha : SE R W rs X ea (ev C rs a)) (ht : SA R W rs X ets (evL C rs ts)) (hx : x = ("isinstance" : Str)) (hg : chkGl c.sc x = true) (hb : x ∈ T.bl)
    (s1 : noStar ea = true) (hne : ets.length ≠ 0) (hl : ets.length ≤ 100) (hle : ts.length = ets.length) : SE R W rs X (.Call (.Name x p) [ea, .Tuple ets kk p2] [] pos) (ev C rs (.isin a ts)) := by
  obtain ⟨g1, g2⟩ := gl_of ok hg
  refine (pe_callB (pos := pos) (p := p) call_isiT g1 (wd.bl x hb) (by rw [hx]; exact isi_boot) (pa_cons ha (pa_cons (pe_tup (x1 := kk) (pos := p2) ht) pa_nil rfl) (star_of s1)) (by rw [hx]; decide +kernel) g2 (star_of s1) rfl).imp fun st H Q ⟨r, F, S, h, hF, hs⟩ => ?_
  simp only [ev] at hs
  refine bindG h hF hs fun r1 S1 H1 y yv e1 h1 hF1 qy hs => bindE h1 hF1 hs fun r2 S2 H2 zs zv el e2 h2 hF2 qz hs => ?_
  split at hs
  · rename_i b e
    have qy2 := qy.ext e2
    obtain ⟨ws, pw, i⟩ := inst_of h2 qy2 qz e
    have hl1 : zs.length = ets.length := (evL_len el).trans hle
    have hzl : zv.length ≤ sizeLine := by
      rw [← qz.length, hl1, sizeLine_eq]
      omega
    refine ⟨hzl, fun q n => ?_⟩
    rcases i with i | ⟨k, hk, ty, ek, kt⟩
    · rw [i] at hl1
      exact absurd hl1.symm hne
    · refine ⟨yv, q, zv, .type (tyN k), ws, b, rfl, upd_same, pw, ?_, ?_, ?_⟩
      · rw [ok.K]
        exact (kind_of (h2.fresh n) (qy2.ext (.fresh n)) ek).1
      · rw [ok.K]; exact kt
      · exact hs _ _ _ (.fresh n) (h2.fresh n) (.bl _)
  · exact hs.elim

/-! ### calls of defs -/
theorem Reps.paired {r : List Addr} {H : Hp} : ∀ {ds : List D} {vs : List V}, Reps R r H ds vs → Paired (Rep R r H) ds vs
  | _, _, .nil => .nil
  | _, _, .cons h t => .cons h (Reps.paired t)
theorem Reps.of {r : List Addr} {H : Hp} : ∀ {ds : List D} {vs : List V}, Paired (Rep R r H) ds vs → Reps R r H ds vs
  | _, _, .nil => .nil
  | _, _, .cons h t => .cons h (Reps.of t)
def kwOk (an : List Str) : List Nat → List Keyword → Bool
  | [], [] => true
  | n :: ns, k :: ks => decide (k.arg = some (nmAt an n)) && kwOk an ns ks
  | _, _ => false
theorem kwOk_all {an : List Str} {env : Env} {pos : Pos} : ∀ {kn : List Nat} {ks : List Keyword}, kwOk an kn ks = true →
    (backToKw pos (keywordEach ks env)).all (·.1.isSome) = true ∧ (backToKw pos (keywordEach ks env)).filterMap (·.1) = kn.map (nmAt an) ∧ (backToKw pos (keywordEach ks env)).any (·.1.isNone) = false
  | [], [], _ => ⟨rfl, rfl, rfl⟩
  | [], _ :: _, h => by cases h
  | _ :: _, [], h => by cases h
  | n :: ns, ⟨a, v, kp⟩ :: ks, h => by
    unfold kwOk at h
    rw [Bool.and_eq_true] at h
    have h1 : a = some (nmAt an n) := of_decide_eq_true h.1
    subst h1
    obtain ⟨i1, i2, i3⟩ := kwOk_all (env := env) (pos := pos) h.2
    have e : backToKw pos (keywordEach (⟨some (nmAt an n), v, kp⟩ :: ks) env) = (some (nmAt an n), do let u ← eval v env; standAt pos; pure u) :: backToKw pos (keywordEach ks env) := rfl
    rw [e]
    refine ⟨?_, ?_, ?_⟩
    · rw [List.all_cons, i1]; rfl
    · rw [List.filterMap_cons, i2]; rfl
    · rw [List.any_cons, i3]; rfl
theorem star_pl {pos : Pos} : ∀ {es : List Expr}, es.all noStar = true → (backTo pos (starEach es X.env)).any (·.1) = false
  | [], _ => rfl
  | e :: r, h => by
    rw [List.all_cons, Bool.and_eq_true] at h
    rw [star_of h.1]
    have i1 := star_pl (pos := pos) h.2
    unfold backTo at i1 ⊢
    rw [List.map_cons, List.any_cons, i1]
    rfl
/-- what the call's reading asks, from the evaluator's call -/
theorem call_sat {kp : Bool} {f : Nat} {F : FD} {us : List V} {ks : List V} {dvs : List V} {kn : List Nat} {C : Cxt} {T : Sta} {st : L2.St} {r : List Addr} {S : Sto} {H : Hp} {xs zs : List D} {Q : VK} (wd : WldX R T C X) (hf : T.fd f = some F)
    (hd : ∀ hid r H, Reps (R.h hid) r H F.dv dvs) (h : RS R rs r S H) (qx : Reps R r H xs us) (qz : Reps R r H zs ks)
    (hs : Sat R W rs st r H (Rep R) (match C.pars f with
      | some (ps, dv) => match bindA dv ps xs kn zs with
        | some vs => if kp then C.call f vs rs S else endCall S (C.call f vs (S.length :: rs) S)
        | none => .bad
      | none => .bad) Q) : ∃ ws, bindA dvs F.ps us kn ks = some ws ∧ spOf R F.ps.length (C.call f) ws H Q (fun c d H => W c d st H) := by
  rw [wd.pars f, hf] at hs
  simp only [Option.map_some] at hs
  split at hs
  · rename_i ds e
    obtain ⟨ws, e2, p⟩ := bindA_rel (Reps.paired (hd R.hid r H)) (Reps.paired qz) (Reps.paired qx) e
    refine ⟨ws, e2, ?_⟩
    have q : Reps R r H ds ws := Reps.of p
    cases kp with
    | true => exact ⟨R.hid, r, S, ds, rs, bindA_len e, h, q, hs⟩
    | false => exact ⟨R.hid, r, S, ds, S.length :: rs, bindA_len e, h.region, q, Sat.endCall h hs⟩
  · exact hs.elim
theorem se_call {kp : Bool} {f : Nat} {F : FD} {as ka : List CE} {kn : List Nat} {ea : Expr} {es : List Expr} {ks : List Keyword} {x : Str} {p pos : Pos} {C : Cxt} {T : Sta} (ok : XOk R N c X) (wd : WldX R T C X) (tk : Takes X W) (hf : T.fd f = some F) (hx : nmAt T.gn f = x) (hg : chkGl c.sc x = true)
    (ha : SA R W rs X (ea :: es) (evL C rs as)) (hk : SK R W rs X ks (evL C rs ka)) (hst : (ea :: es).all noStar = true) (hkw : kwOk T.an kn ks = true) (hsh : (as.length, kn) ∈ T.shp f) (hla : as.length = (ea :: es).length) (hlk : ka.length = kn.length) :
    SE R W rs X (.Call (.Name x p) (ea :: es) ks pos) (ev C rs (.call kp f as kn ka)) := by
  obtain ⟨g1, g2⟩ := gl_of ok hg
  obtain ⟨k, fa, fd, dvs, dw, c1, c2, c3, c4, c5, c6, c7⟩ := wd.call f F hf
  obtain ⟨w1, w2, w3⟩ := kwOk_all (env := X.env) (pos := pos) hkw
  have hst' := hst
  rw [List.all_cons, Bool.and_eq_true] at hst'
  refine (pe_callG (pos := pos) (p := p) (n := as.length) (kn := kn) c3 c4 tk g1 (by rw [← hx]; exact c1) c2 c6 (c7 _ hsh) ha hk w1 w2 g2 (star_of hst'.1) (by rw [star_pl hst, w3]; rfl)).imp fun st H Q ⟨r, F', S, h, hF, hs⟩ => ?_
  simp only [ev] at hs
  refine bindE h hF hs fun r1 S1 H1 xs us l1 e1 h1 hF1 qx hs => bindE h1 hF1 hs fun r2 S2 H2 zs kv l2 e2 h2 hF2 qz hs => ?_
  obtain ⟨ws, b1, b2⟩ := call_sat wd hf c5 h2 (qx.ext e2) qz hs
  exact ⟨by rw [← qx.length, evL_len l1], by rw [← qz.length, evL_len l2, hlk], ws, b1, b2⟩
theorem se_call0 {kp : Bool} {f : Nat} {F : FD} {ka : List CE} {kn : List Nat} {ks : List Keyword} {x : Str} {p pos : Pos} {C : Cxt} {T : Sta} (ok : XOk R N c X) (wd : WldX R T C X) (tk : Takes X W) (hf : T.fd f = some F) (hx : nmAt T.gn f = x) (hg : chkGl c.sc x = true)
    (hk : SK R W rs X ks (evL C rs ka)) (hkw : kwOk T.an kn ks = true) (hsh : (0, kn) ∈ T.shp f) (hlk : ka.length = kn.length) :
    SE R W rs X (.Call (.Name x p) [] ks pos) (ev C rs (.call kp f [] kn ka)) := by
  obtain ⟨g1, g2⟩ := gl_of ok hg
  obtain ⟨k, fa, fd, dvs, dw, c1, c2, c3, c4, c5, c6, c7⟩ := wd.call f F hf
  obtain ⟨w1, w2, w3⟩ := kwOk_all (env := X.env) (pos := pos) hkw
  refine (pe_callG0 (pos := pos) (p := p) (kn := kn) c3 c4 tk g1 (by rw [← hx]; exact c1) c2 c6 (c7 _ hsh) hk w1 w2 g2 (by rw [w3]; rfl)).imp fun st H Q ⟨r, F', S, h, hF, hs⟩ => ?_
  simp only [ev, evL, Out.bind] at hs
  refine bindE h hF hs fun r2 S2 H2 zs kv l2 e2 h2 hF2 qz hs => ?_
  obtain ⟨ws, b1, b2⟩ := call_sat wd hf c5 h2 .nil qz hs
  exact ⟨rfl, by rw [← qz.length, evL_len l2, hlk], ws, b1, b2⟩
end
end OM
set_option Elab.async false
set_option linter.all false
set_option maxRecDepth 100000
set_option maxHeartbeats 1000000
/-! OmIter: what is walked; list comprehensions. -/
namespace OM
open PySem PySem.Spec PyProof.Rows L2

section
variable {R : RP} {r : List Addr} {H : Hp}
/-- lists that come to be made later hide nothing -/
def Later (R : RP) (H : Hp) (hid : List Addr) : Prop := ∀ a ∈ hid, a ∈ R.hid ∨ H a = none
theorem Fre.later {hid : List Addr} {a : Addr} {o : HO} (f : Fre R r a) (l : Later R H hid) (e : H a = some o) : Fre (R.h hid) r a := ⟨f.1, fun m => by
  rcases l a m with q | q
  · exact f.2 q
  · rw [e] at q; cases q⟩
theorem FzT.later {hid : List Addr} {a : Addr} {xs : List V} (f : FzT R r H a xs) (l : Later R H hid) : FzT (R.h hid) r H a xs := by
  rcases f with ⟨f | ⟨o, f⟩, n⟩ | f
  · exact .inl ⟨.inl f, n.later l f⟩
  · exact .inl ⟨.inr ⟨o, f⟩, n.later l f⟩
  · exact .inr f
theorem FzL.later {hid : List Addr} {a : Addr} {xs : List V} (f : FzL R r H a xs) (l : Later R H hid) : FzL (R.h hid) r H a xs := by
  rcases f with ⟨f | ⟨o, f⟩, n⟩ | f
  · exact .inl ⟨.inl f, n.later l f⟩
  · exact .inl ⟨.inr ⟨o, f⟩, n.later l f⟩
  · exact .inr f
mutual
theorem Rep.later {hid : List Addr} (l : Later R H hid) : ∀ {d : D} {v : V}, Rep R r H d v → Rep (R.h hid) r H d v
  | _, _, .non => .non
  | _, _, .bl b => .bl b
  | _, _, .int i => .int i
  | _, _, .str x => .str x
  | _, _, .tup f h => .tup (f.later l) (Reps.later l h)
  | _, _, .lst q n h => .lst q (n.later l q) (Reps.later l h)
  | _, _, .frz f => .frz (f.later l)
  | _, _, .obj q n k h => .obj q (n.later l q) k (Reps.later l h)
  | _, _, .ref h => .ref h
  | _, _, .fn k => .fn k
  | _, _, .cls k => .cls k
  | _, _, .ty k => .ty k
theorem Reps.later {hid : List Addr} (l : Later R H hid) : ∀ {ds : List D} {vs : List V}, Reps R r H ds vs → Reps (R.h hid) r H ds vs
  | _, _, .nil => .nil
  | _, _, .cons h t => .cons (h.later l) (Reps.later l t)
end
end

/-- J serves what src tells, from the state r0, H0 on -/
def Srv (R : RP) (rs : List Nat) (src : Src) (J : It) (r0 : List Addr) (H0 : Hp) : Prop :=
  ∀ (hid r : List Addr) (S : Sto) (H : Hp) (i : Nat), Later R H0 hid → Ext r0 H0 r H → RS (R.h hid) rs r S H →
    (∀ d, srcAt S src i = some (some d) → J.go i H ∧ ∀ x H', J.yld i H x H' → Ext r H r H' ∧ RS (R.h hid) rs r S H' ∧ Rep (R.h hid) r H' d x) ∧ (srcAt S src i = some none → J.stop i H)

section
variable {R : RP} {rs : List Nat} {r : List Addr} {S : Sto} {H : Hp}
theorem items_at {xs : List D} {i : Nat} {S : Sto} {o : Option D} (e : srcAt S (.items xs) i = some o) : xs[i]? = o := Option.some.inj e
theorem Reps.at {ds : List D} {vs : List V} (g : Reps R r H ds vs) {i : Nat} {d : D} {v : V} (e : ds[i]? = some d) (f : vs[i]? = some v) : Rep R r H d v := by
  obtain ⟨u, h1, h2⟩ := g.get e
  rw [f] at h1
  cases h1
  exact h2
theorem srv_list {a : Addr} {ds : List D} {vs : List V} (ha : H a = some (.lst vs)) (fr : Fre R r a) (g : Reps R r H ds vs) : Srv R rs (.items ds) (Itl R.K a) r H := by
  intro hid r1 S1 H1 i l e h1
  have ha1 := e.keep _ _ ha fr.1
  have g1 : Reps (R.h hid) r1 H1 ds vs := (g.later l).ext e
  refine ⟨fun d ed => ?_, fun en => ?_⟩
  · have ed := items_at ed
    obtain ⟨v, ev, _⟩ := g1.get ed
    refine ⟨⟨vs, v, .of ha1, ev⟩, fun x H' ⟨e1, e2⟩ => ?_⟩
    subst e1
    exact ⟨.refl _ _, h1, g1.at ed (e2 vs (.of ha1))⟩
  · have en := items_at en
    refine ⟨vs, .of ha1, ?_⟩
    rw [← g.length]
    exact List.getElem?_eq_none_iff.mp en
theorem srv_tup {a : Addr} {ds : List D} {vs : List V} (ha : FzT R r H a vs) (g : Reps R r H ds vs) : Srv R rs (.items ds) (Itt R.K a) r H := by
  intro hid r1 S1 H1 i l e h1
  have ha1 : SqT R.K H1 a vs := (ha.ext e).sq
  have g1 : Reps (R.h hid) r1 H1 ds vs := (g.later l).ext e
  refine ⟨fun d ed => ?_, fun en => ?_⟩
  · have ed := items_at ed
    obtain ⟨v, ev, _⟩ := g1.get ed
    refine ⟨⟨vs, v, ha1, ev⟩, fun x H' ⟨e1, e2⟩ => ?_⟩
    subst e1
    exact ⟨.refl _ _, h1, g1.at ed (e2 vs ha1)⟩
  · have en := items_at en
    refine ⟨vs, ha1, ?_⟩
    rw [← g.length]
    exact List.getElem?_eq_none_iff.mp en
theorem srv_cell {n k : Nat} {a : Addr} (ha : r[n]? = some a) : Srv R rs (.cell n k) (Itl R.K a) r H := by
  intro hid r1 S1 H1 i l e h1
  have ha1 : r1[n]? = some a := (e.old n (List.getElem?_eq_some_iff.mp ha).1).trans ha
  obtain ⟨c, o, e1, e2, e3⟩ := h1.at ha1
  have key : ∀ o', srcAt S1 (.cell n k) i = some o' → ∃ ds vs, c = .lst ds ∧ o = .lst vs ∧ Reps (R.h hid) r1 H1 ds vs ∧ ds[i]? = o' := by
    intro o' q
    simp only [srcAt, e1] at q
    cases e3 with
    | lst g =>
      dsimp only at q
      split at q
      · exact ⟨_, _, rfl, rfl, g, Option.some.inj q⟩
      · cases q
    | obj _ _ => cases q
  refine ⟨fun d ed => ?_, fun en => ?_⟩
  · obtain ⟨ds, vs, rfl, rfl, g, ei⟩ := key _ ed
    obtain ⟨v, ev, _⟩ := g.get ei
    refine ⟨⟨vs, v, .of e2, ev⟩, fun x H' ⟨q1, q2⟩ => ?_⟩
    subst q1
    exact ⟨.refl _ _, h1, g.at ei (q2 vs (.of e2))⟩
  · obtain ⟨ds, vs, rfl, rfl, g, ei⟩ := key _ en
    refine ⟨vs, .of e2, ?_⟩
    rw [← g.length]
    exact List.getElem?_eq_none_iff.mp ei
theorem srv_str {x : List Nat} (hx : okS x = true) : Srv R rs (.items (x.map fun c => .str [c])) (Its (mkS x)) r H := by
  intro hid r1 S1 H1 i l e h1
  have hsz : (mkS x).cps.size = x.length := by simp [mkS]
  refine ⟨fun d ed => ?_, fun en => ?_⟩
  · have ed := items_at ed
    rw [List.getElem?_map] at ed
    cases ei : x[i]? with
    | none => rw [ei] at ed; cases ed
    | some c =>
      rw [ei] at ed
      cases ed
      have hi := (List.getElem?_eq_some_iff.mp ei).1
      refine ⟨by show i < (mkS x).cps.size; rw [hsz]; exact hi, fun y H' ⟨e1, c', e2, e3⟩ => ?_⟩
      subst e1
      subst e3
      have ec : c' = c := by
        have q : (mkS x).cps[i]? = some c := by simpa [mkS] using ei
        rw [q] at e2
        exact (Option.some.inj e2).symm
      subst ec
      refine ⟨.refl _ _, h1, ?_⟩
      exact Rep.str (x := [c']) (okS_mk (by show 1 ≤ line; unfold line; omega) fun z hz => by
        rw [List.mem_singleton] at hz
        subst hz
        exact okS_all hx _ (List.mem_of_getElem? ei))
  · have en := items_at en
    rw [List.getElem?_map] at en
    show (mkS x).cps.size ≤ i
    rw [hsz]
    cases ei : x[i]? with
    | none => exact List.getElem?_eq_none_iff.mp ei
    | some c => rw [ei] at en; cases en
theorem rangeD_at (a : Int) : ∀ (n i : Nat), (rangeD a n)[i]? = if i < n then some (.int (a + i)) else none
  | 0, i => by simp [rangeD]
  | n + 1, 0 => by simp [rangeD]
  | n + 1, i + 1 => by
    unfold rangeD
    rw [List.getElem?_cons_succ, rangeD_at (a + 1) n i]
    by_cases h : i < n
    · rw [if_pos h, if_pos (by omega)]
      congr 2
      omega
    · rw [if_neg h, if_neg (by omega)]
theorem srv_range {a : Int} {n : Nat} : Srv R rs (.items (rangeD a n)) (Itr a n) r H := by
  intro hid r1 S1 H1 i l e h1
  refine ⟨fun d ed => ?_, fun en => ?_⟩
  · have ed := items_at ed
    rw [rangeD_at] at ed
    by_cases hi : i < n
    · rw [if_pos hi] at ed
      cases ed
      refine ⟨hi, fun y H' ⟨e1, e2⟩ => ?_⟩
      subst e1
      subst e2
      exact ⟨.refl _ _, h1, .int _⟩
    · rw [if_neg hi] at ed; cases ed
  · have en := items_at en
    rw [rangeD_at] at en
    by_cases hi : i < n
    · rw [if_pos hi] at en; cases en
    · exact Nat.le_of_not_lt hi
theorem zipD_at : ∀ (xs ys : List D) (i : Nat), (zipD xs ys)[i]? = (match xs[i]?, ys[i]? with | some x, some y => some (.tup [x, y]) | _, _ => none)
  | [], _, i => by simp [zipD]
  | _ :: _, [], i => by
    simp only [zipD, List.getElem?_nil]
    split
    · rename_i h; cases h
    · rfl
  | x :: xs, y :: ys, 0 => rfl
  | x :: xs, y :: ys, i + 1 => by
    unfold zipD
    rw [List.getElem?_cons_succ, List.getElem?_cons_succ, List.getElem?_cons_succ, zipD_at xs ys i]
theorem new_pair {hid r1 : List Addr} {S1 : Sto} {H1 : Hp} {d f : D} {x y : V} {q : Addr} (h1 : RS (R.h hid) rs r1 S1 H1) (n : H1 q = none) (qx : Rep (R.h hid) r1 H1 d x) (qy : Rep (R.h hid) r1 H1 f y) :
    Ext r1 H1 r1 (upd H1 q (.tup [x, y])) ∧ RS (R.h hid) rs r1 S1 (upd H1 q (.tup [x, y])) ∧ Rep (R.h hid) r1 (upd H1 q (.tup [x, y])) (.tup [d, f]) (.ref q) :=
  ⟨.fresh n, h1.fresh n, .tup (.inl ⟨.inl upd_same, h1.fre n⟩) (.cons (qx.ext (.fresh n)) (.cons (qy.ext (.fresh n)) .nil))⟩
theorem zip_none {xs ys : List D} {vs us : List V} (g : Reps R r H xs vs) (g2 : Reps R r H ys us) {i : Nat} (e : (zipD xs ys)[i]? = none) : vs.length ≤ i ∨ us.length ≤ i := by
  rw [zipD_at] at e
  cases e1 : xs[i]? with
  | none => exact .inl (by rw [← g.length]; exact List.getElem?_eq_none_iff.mp e1)
  | some x =>
    cases e2 : ys[i]? with
    | none => exact .inr (by rw [← g2.length]; exact List.getElem?_eq_none_iff.mp e2)
    | some y => rw [e1, e2] at e; cases e
theorem zip_some {xs ys : List D} {i : Nat} {d : D} (e : (zipD xs ys)[i]? = some d) : ∃ x y, xs[i]? = some x ∧ ys[i]? = some y ∧ d = .tup [x, y] := by
  rw [zipD_at] at e
  cases e1 : xs[i]? with
  | none => rw [e1] at e; cases e
  | some x =>
    cases e2 : ys[i]? with
    | none => rw [e1, e2] at e; cases e
    | some y => rw [e1, e2] at e; cases e; exact ⟨x, y, rfl, rfl, rfl⟩
theorem srv_zip {a b : Addr} {xs ys : List D} {vs us : List V} (ha : H a = some (.lst vs)) (fa : Fre R r a) (ga : Reps R r H xs vs) (hb : H b = some (.lst us)) (fb : Fre R r b) (gb : Reps R r H ys us) : Srv R rs (.items (zipD xs ys)) (Itz R.K a b) r H := by
  intro hid r1 S1 H1 i l e h1
  have ha1 := e.keep _ _ ha fa.1
  have hb1 := e.keep _ _ hb fb.1
  have g1 : Reps (R.h hid) r1 H1 xs vs := (ga.later l).ext e
  have g2 : Reps (R.h hid) r1 H1 ys us := (gb.later l).ext e
  refine ⟨fun d ed => ?_, fun en => ?_⟩
  · obtain ⟨x, y, ex, ey, rfl⟩ := zip_some (items_at ed)
    obtain ⟨v, ev, _⟩ := g1.get ex
    obtain ⟨u, eu, _⟩ := g2.get ey
    refine ⟨⟨vs, us, v, u, .of ha1, .of hb1, ev, eu⟩, fun z H' ⟨q, v', u', e1, n, e2, e3, e4⟩ => ?_⟩
    subst e1; subst e2
    exact new_pair h1 n (g1.at ex (e3 vs (.of ha1))) (g2.at ey (e4 us (.of hb1)))
  · exact ⟨vs, us, .of ha1, .of hb1, zip_none g1 g2 (items_at en)⟩
theorem srv_zipT {a b : Addr} {xs ys : List D} {vs us : List V} (ha : FzT R r H a vs) (ga : Reps R r H xs vs) (hb : FzT R r H b us) (gb : Reps R r H ys us) : Srv R rs (.items (zipD xs ys)) (RZ.ItzT R.K a b) r H := by
  intro hid r1 S1 H1 i l e h1
  have ha1 : SqT R.K H1 a vs := (ha.ext e).sq
  have hb1 : SqT R.K H1 b us := (hb.ext e).sq
  have g1 : Reps (R.h hid) r1 H1 xs vs := (ga.later l).ext e
  have g2 : Reps (R.h hid) r1 H1 ys us := (gb.later l).ext e
  refine ⟨fun d ed => ?_, fun en => ?_⟩
  · obtain ⟨x, y, ex, ey, rfl⟩ := zip_some (items_at ed)
    obtain ⟨v, ev, _⟩ := g1.get ex
    obtain ⟨u, eu, _⟩ := g2.get ey
    refine ⟨⟨vs, us, v, u, ha1, hb1, ev, eu⟩, fun z H' ⟨q, v', u', e1, n, e2, e3, e4⟩ => ?_⟩
    subst e1; subst e2
    exact new_pair h1 n (g1.at ex (e3 vs ha1)) (g2.at ey (e4 us hb1))
  · exact ⟨vs, us, ha1, hb1, zip_none g1 g2 (items_at en)⟩
theorem enumD_at : ∀ (xs : List D) (k i : Nat), (enumD k xs)[i]? = (xs[i]?).map fun x => .tup [.int ((k + i : Nat) : Int), x]
  | [], k, i => by simp [enumD]
  | x :: xs, k, 0 => by simp [enumD]
  | x :: xs, k, i + 1 => by
    unfold enumD
    rw [List.getElem?_cons_succ, List.getElem?_cons_succ, enumD_at xs (k + 1) i, show k + 1 + i = k + (i + 1) by omega]
theorem srv_enum {a : Addr} {xs : List D} {vs : List V} (ha : H a = some (.lst vs)) (fa : Fre R r a) (ga : Reps R r H xs vs) : Srv R rs (.items (enumD 0 xs)) (Ite R.K a) r H := by
  intro hid r1 S1 H1 i l e h1
  have ha1 := e.keep _ _ ha fa.1
  have g1 : Reps (R.h hid) r1 H1 xs vs := (ga.later l).ext e
  refine ⟨fun d ed => ?_, fun en => ?_⟩
  · have ed := items_at ed
    rw [enumD_at] at ed
    cases ex : xs[i]? with
    | none => rw [ex] at ed; cases ed
    | some x =>
      rw [ex] at ed
      cases ed
      obtain ⟨v, ev, _⟩ := g1.get ex
      refine ⟨⟨vs, v, .of ha1, ev⟩, fun z H' ⟨q, v', e1, n, e2, e3⟩ => ?_⟩
      subst e1; subst e2
      rw [Nat.zero_add]
      exact new_pair h1 n (.int _) (g1.at ex (e3 vs (.of ha1)))
  · have en := items_at en
    rw [enumD_at] at en
    refine ⟨vs, .of ha1, ?_⟩
    rw [← ga.length]
    cases ex : xs[i]? with
    | none => exact List.getElem?_eq_none_iff.mp ex
    | some x => rw [ex] at en; cases en
end

/-! ### iterators by their expressions -/
section
variable {R : RP} {W : WX} {rs : List Nat} {X : Cx} {N : List Str} {c : Scp}
def SI (R : RP) (W : WX) (rs : List Nat) (X : Cx) (tg e : Expr) (g : Fr → Sto → Out Src) : Prop := PI X tg e (tG R W rs (fun r H s J => Srv R rs s J r H) g)
theorem PI.imp {tg e : Expr} {t t' : TI} (h : PI X tg e t) (k : ∀ st H Q, t' st H Q → t st H Q) : PI X tg e t' := ⟨fun pins s st H Q I q => h.run pins s st H Q I (k _ _ _ q)⟩
/-- a value that is walked -/
def iAny (K : PySem.W.Frag) (te : TE) : TI := fun st H R => te st H fun v H1 => (∃ a, v = .ref a ∧ (∃ xs, SqL K H1 a xs) ∧ R (Itl K a) H1) ∨ (∃ a, v = .ref a ∧ (∃ xs, SqT K H1 a xs) ∧ R (Itt K a) H1) ∨ ∃ x, v = .str x ∧ R (Its x) H1
theorem pi_any {tg e : Expr} {te : TE} (he : PE X e te) : PI X tg e (iAny X.K te) := by
  refine ⟨fun pins s st H R I h => thn (he.run pins s st H _ I h) fun v s1 ⟨x, H1, I1, r1, q1⟩ => ?_⟩
  rcases q1 with ⟨a, rfl, ⟨xs, hq⟩, q⟩ | ⟨a, rfl, ⟨xs, hq⟩, q⟩ | ⟨y, rfl, q⟩
  · cases r1
    obtain ⟨its, rv, p, hz⟩ := I1.list hq
    exact wpAny_pyIter_list p.isList (pi_one (tk := s1.toks) I1 _ (turn_list a _) ⟨_, Heap.get?_push_size _ rfl, rfl, rfl⟩ q)
  · cases r1
    obtain ⟨its, rv, p, hz⟩ := I1.tuple hq
    exact wpAny_pyIter_tuple (show s1.heap.IsTuple a its.toArray from p) (pi_one (tk := s1.toks) I1 _ (turn_tuple a _) ⟨_, Heap.get?_push_size _ rfl, rfl, rfl⟩ q)
  · obtain ⟨t, rfl⟩ := r1
    cases ha : y.cps.all (· < 128) with
    | false => exact wpAny_pyIter_wide ha (pi_one (tk := s1.toks) I1 _ (turn_str _ y t "str_iterator" (.inr rfl)) ⟨_, Heap.get?_push_size _ rfl, rfl, rfl⟩ q)
    | true => exact wpAny_pyIter_ascii ha (pi_one (tk := s1.toks) I1 _ (turn_str _ y t "str_ascii_iterator" (.inl rfl)) ⟨_, Heap.get?_push_size _ rfl, rfl, rfl⟩ q)
theorem si_ov {a : CE} {tg ea : Expr} {C : Cxt} (ok : XOk R N c X) (ha : SE R W rs X ea (ev C rs a)) : SI R W rs X tg ea (evI C rs (.ov a)) := by
  refine PI.imp (pi_any ha) fun st H Q ⟨r, F, S, h, hF, hs⟩ => ?_
  simp only [evI] at hs
  refine bindG h hF hs fun r1 S1 H1 x xv e1 h1 hF1 qx hs => ?_
  split at hs
  · rename_i src e
    rw [ok.K]
    cases qx with
    | tup f g => cases e; exact .inr (.inl ⟨_, rfl, ⟨_, f.sq⟩, hs.fin h1 (srv_tup f g)⟩)
    | lst q n g => cases e; exact .inl ⟨_, rfl, ⟨_, .of q⟩, hs.fin h1 (srv_list q n g)⟩
    | str hx => cases e; exact .inr (.inr ⟨_, rfl, hs.fin h1 (srv_str hx)⟩)
    | @ref n a z =>
      obtain ⟨c', o, e1', e2, e3⟩ := h1.at z
      simp only [iterOf, e1'] at e
      cases e3 with
      | lst g => cases e; exact .inl ⟨_, rfl, ⟨_, .of e2⟩, hs.fin h1 (srv_cell z)⟩
      | obj _ _ => cases e
    | _ => cases e
  · exact hs.elim
theorem si_rng1 {b : CE} {tg eb : Expr} {x : Str} {p pos : Pos} {C : Cxt} {T : Sta} (ok : XOk R N c X) (wd : WldX R T C X) (hb : SE R W rs X eb (ev C rs b)) (hx : x = ("range" : Str)) (hg : chkGl c.sc x = true) (hbl : x ∈ T.bl) (ns : noStar eb = true) : SI R W rs X tg (.Call (.Name x p) [eb] [] pos) (evI C rs (.rng1 b)) := by
  subst hx
  obtain ⟨g1, g2⟩ := gl_of ok hg
  refine PI.imp (pi_range1 (pos := pos) (p := p) g1 (wd.bl _ hbl) (pa_cons hb pa_nil (star_of ns)) (star_of ns)) fun st H Q ⟨r, F, S, h, hF, hs⟩ => ?_
  simp only [evI] at hs
  refine bindG h hF hs fun r1 S1 H1 y yv e1 h1 hF1 qy hs => ?_
  split at hs
  · rename_i j
    cases qy
    split at hs
    · rename_i hj
      simp only [Bool.and_eq_true, decide_eq_true_eq] at hj
      exact ⟨j, rfl, by omega, by omega, hs.fin h1 srv_range⟩
    · exact hs.elim
  · exact hs.elim
theorem si_rng {a b : CE} {tg ea eb : Expr} {x : Str} {p pos : Pos} {C : Cxt} {T : Sta} (ok : XOk R N c X) (wd : WldX R T C X) (ha : SE R W rs X ea (ev C rs a)) (hb : SE R W rs X eb (ev C rs b)) (hx : x = ("range" : Str)) (hg : chkGl c.sc x = true) (hbl : x ∈ T.bl) (n1 : noStar ea = true) (n2 : noStar eb = true) :
    SI R W rs X tg (.Call (.Name x p) [ea, eb] [] pos) (evI C rs (.rng a b)) := by
  subst hx
  obtain ⟨g1, g2⟩ := gl_of ok hg
  refine PI.imp (pi_range2 (pos := pos) (p := p) g1 (wd.bl _ hbl) (pa_cons ha (pa_cons hb pa_nil (star_of n2)) (star_of n1)) (by rw [star_of n1, star_of n2]; rfl) (star_of n2)) fun st H Q ⟨r, F, S, h, hF, hs⟩ => ?_
  simp only [evI] at hs
  refine bindG h hF hs fun r1 S1 H1 y yv e1 h1 hF1 qy hs => bindG h1 hF1 hs fun r2 S2 H2 z zv e2 h2 hF2 qz hs => ?_
  split at hs
  · cases qy
    cases qz
    split at hs
    · rename_i hj
      simp only [Bool.and_eq_true, decide_eq_true_eq] at hj
      exact ⟨_, _, rfl, ⟨by omega, by omega, by omega, by omega⟩, hs.fin h2 srv_range⟩
    · exact hs.elim
  · exact hs.elim
theorem si_zip {a b : CE} {elts : List Expr} {kk : Nat} {tpos : Pos} {ea eb : Expr} {x : Str} {p pos : Pos} {C : Cxt} {T : Sta} (ok : XOk R N c X) (wd : WldX R T C X) (ha : SE R W rs X ea (ev C rs a)) (hb : SE R W rs X eb (ev C rs b)) (hx : x = ("zip" : Str)) (hg : chkGl c.sc x = true) (hbl : x ∈ T.bl) (n1 : noStar ea = true) (n2 : noStar eb = true) :
    SI R W rs X (.Tuple elts kk tpos) (.Call (.Name x p) [ea, eb] [] pos) (evI C rs (.zip a b)) := by
  subst hx
  obtain ⟨g1, g2⟩ := gl_of ok hg
  refine PI.imp (RZ.pi_zipA (pos := pos) (p := p) g1 (wd.bl _ hbl) (pa_cons ha (pa_cons hb pa_nil (star_of n2)) (star_of n1)) (star_of n1) (by rw [star_of n2]; rfl)) fun st H Q ⟨r, F, S, h, hF, hs⟩ => ?_
  simp only [evI] at hs
  refine bindG h hF hs fun r1 S1 H1 y yv e1 h1 hF1 qy hs => bindG h1 hF1 hs fun r2 S2 H2 z zv e2 h2 hF2 qz hs => ?_
  have qy2 := qy.ext e2
  rw [ok.K]
  split at hs
  · cases qy2 with
    | lst q1 n1 g1 =>
    cases qz with
    | lst q2 n2 g2 => exact ⟨_, _, _, _, rfl, .inl ⟨.of q1, .of q2, hs.fin h2 (srv_zip q1 n1 g1 q2 n2 g2)⟩⟩
  · cases qy2 with
    | tup f1 g1 =>
    cases qz with
    | tup f2 g2 => exact ⟨_, _, _, _, rfl, .inr ⟨f1.sq, f2.sq, hs.fin h2 (srv_zipT f1 g1 f2 g2)⟩⟩
  · exact hs.elim
theorem si_enm {a : CE} {elts : List Expr} {kk : Nat} {tpos : Pos} {ea : Expr} {x : Str} {p pos : Pos} {C : Cxt} {T : Sta} (ok : XOk R N c X) (wd : WldX R T C X) (ha : SE R W rs X ea (ev C rs a)) (hx : x = ("enumerate" : Str)) (hg : chkGl c.sc x = true) (hbl : x ∈ T.bl) (n1 : noStar ea = true) :
    SI R W rs X (.Tuple elts kk tpos) (.Call (.Name x p) [ea] [] pos) (evI C rs (.enm a)) := by
  subst hx
  obtain ⟨g1, g2⟩ := gl_of ok hg
  refine PI.imp (pi_enum (pos := pos) (p := p) g1 (wd.bl _ hbl) (pa_cons ha pa_nil (star_of n1)) (star_of n1)) fun st H Q ⟨r, F, S, h, hF, hs⟩ => ?_
  simp only [evI] at hs
  refine bindG h hF hs fun r1 S1 H1 y yv e1 h1 hF1 qy hs => ?_
  rw [ok.K]
  split at hs
  · cases qy with
    | lst q1 n1 g1 => exact ⟨_, _, rfl, .of q1, hs.fin h1 (srv_enum q1 n1 g1)⟩
  · exact hs.elim
end
end OM
set_option Elab.async false
set_option linter.all false
set_option maxRecDepth 100000
set_option maxHeartbeats 1000000
/-! OmComp: targets; list comprehensions. -/
namespace OM
open PySem PySem.Spec PyProof.Rows L2

/-! ### a list that is being made -/
section
variable {R : RP} {rs : List Nat} {r : List Addr} {S : Sto} {H : Hp} {D' : Addr} {o : HO}
theorem Fre.ne {a : Addr} (f : Fre R r a) (m : D' ∈ R.hid) : a ≠ D' := fun z => f.2 (z ▸ m)
theorem FzT.hidw {a : Addr} {xs : List V} (f : FzT R r H a xs) (m : D' ∈ R.hid) : FzT R r (upd H D' o) a xs := by
  rcases f with ⟨f | ⟨p, f⟩, n⟩ | f
  · exact .inl ⟨.inl (by rw [upd_ne (n.ne m)]; exact f), n⟩
  · exact .inl ⟨.inr ⟨p, by rw [upd_ne (n.ne m)]; exact f⟩, n⟩
  · exact .inr f
theorem FzL.hidw {a : Addr} {xs : List V} (f : FzL R r H a xs) (m : D' ∈ R.hid) : FzL R r (upd H D' o) a xs := by
  rcases f with ⟨f | ⟨p, f⟩, n⟩ | f
  · exact .inl ⟨.inl (by rw [upd_ne (n.ne m)]; exact f), n⟩
  · exact .inl ⟨.inr ⟨p, by rw [upd_ne (n.ne m)]; exact f⟩, n⟩
  · exact .inr f
mutual
theorem Rep.hidw (m : D' ∈ R.hid) : ∀ {d : D} {v : V}, Rep R r H d v → Rep R r (upd H D' o) d v
  | _, _, .non => .non
  | _, _, .bl b => .bl b
  | _, _, .int i => .int i
  | _, _, .str x => .str x
  | _, _, .tup f h => .tup (f.hidw m) (Reps.hidw m h)
  | _, _, .lst q n h => .lst (by rw [upd_ne (n.ne m)]; exact q) n (Reps.hidw m h)
  | _, _, .frz f => .frz (f.hidw m)
  | _, _, .obj q n k h => .obj (by rw [upd_ne (n.ne m)]; exact q) n k (Reps.hidw m h)
  | _, _, .ref h => .ref h
  | _, _, .fn k => .fn k
  | _, _, .cls k => .cls k
  | _, _, .ty k => .ty k
theorem Reps.hidw (m : D' ∈ R.hid) : ∀ {ds : List D} {vs : List V}, Reps R r H ds vs → Reps R r (upd H D' o) ds vs
  | _, _, .nil => .nil
  | _, _, .cons h t => .cons (h.hidw m) (Reps.hidw m t)
end
theorem RS.hidw (h : RS R rs r S H) (m : D' ∈ R.hid) : RS R rs r S (upd H D' o) := by
  refine ⟨h.len, h.nd, fun n c e => ?_, h.reg, fun a ma => ?_⟩
  · obtain ⟨a, u, e1, e2, e3⟩ := h.cell n c e
    have ne : a ≠ D' := fun z => (h.hd D' m).1 (z ▸ List.mem_of_getElem? e1)
    refine ⟨a, u, e1, by rw [upd_ne ne]; exact e2, ?_⟩
    cases e3 with
    | lst g => exact .lst (g.hidw m)
    | obj k g => exact .obj k (g.hidw m)
  · obtain ⟨h1, u, h2⟩ := h.hd a ma
    by_cases q : a = D'
    · subst q; exact ⟨h1, _, upd_same⟩
    · exact ⟨h1, u, by rw [upd_ne q]; exact h2⟩
/-- a list begins to be made -/
theorem later_new (n : H D' = none) : Later R H (D' :: R.hid) := fun a m => by
  rcases List.mem_cons.mp m with e | m
  · subst e; exact .inr n
  · exact .inl m
theorem RS.later (h : RS R rs r S H) (n : H D' = none) : RS (R.h (D' :: R.hid)) rs r S (upd H D' o) := by
  have l := later_new (R := R) n
  refine ⟨h.len, h.nd, fun k c e => ?_, h.reg, fun a m => ?_⟩
  · obtain ⟨a, u, e1, e2, e3⟩ := h.cell k c e
    refine ⟨a, u, e1, by rw [upd_ne (ne_of_none e2 n)]; exact e2, ?_⟩
    cases e3 with
    | lst g => exact .lst ((g.later l).ext (.fresh n))
    | obj k g => exact .obj k ((g.later l).ext (.fresh n))
  · rcases List.mem_cons.mp m with e | m
    · subst e; exact ⟨h.nin n, _, upd_same⟩
    · obtain ⟨h1, u, h2⟩ := h.hd a m
      exact ⟨h1, u, by rw [upd_ne (ne_of_none h2 n)]; exact h2⟩
/-- .. and is made -/
theorem Fre.less {a : Addr} (f : Fre (R.h (D' :: R.hid)) r a) : Fre R r a := ⟨f.1, fun m => f.2 (List.mem_cons_of_mem _ m)⟩
mutual
theorem Rep.less : ∀ {d : D} {v : V}, Rep (R.h (D' :: R.hid)) r H d v → Rep R r H d v
  | _, _, .non => .non
  | _, _, .bl b => .bl b
  | _, _, .int i => .int i
  | _, _, .str x => .str x
  | _, _, .tup f h => .tup (f.elim (fun z => .inl ⟨z.1, z.2.less⟩) .inr) (Reps.less h)
  | _, _, .lst q n h => .lst q n.less (Reps.less h)
  | _, _, .frz f => .frz (f.elim (fun z => .inl ⟨z.1, z.2.less⟩) .inr)
  | _, _, .obj q n k h => .obj q n.less k (Reps.less h)
  | _, _, .ref h => .ref h
  | _, _, .fn k => .fn k
  | _, _, .cls k => .cls k
  | _, _, .ty k => .ty k
theorem Reps.less : ∀ {ds : List D} {vs : List V}, Reps (R.h (D' :: R.hid)) r H ds vs → Reps R r H ds vs
  | _, _, .nil => .nil
  | _, _, .cons h t => .cons h.less (Reps.less t)
end
theorem RS.less (h : RS (R.h (D' :: R.hid)) rs r S H) : RS R rs r S H :=
  ⟨h.len, h.nd, fun k c e => by
    obtain ⟨a, u, e1, e2, e3⟩ := h.cell k c e
    refine ⟨a, u, e1, e2, ?_⟩
    cases e3 with
    | lst g => exact .lst g.less
    | obj k g => exact .obj k g.less, h.reg, fun a m => h.hd a (List.mem_cons_of_mem _ m)⟩
end

/-! ### targets -/
/-- st2 is st but for the slots is -/
def SameBut (is : List Nat) (st st2 : L2.St) : Prop := st2.length = st.length ∧ ∀ j, j ∉ is → st2[j]? = st[j]?
theorem wipe_same {is : List Nat} : ∀ (vs : List Nat) {st st2 : L2.St}, SameBut is st st2 → (∀ i ∈ is, i ∈ vs) → wipe st2 vs = wipe st vs := by
  intro vs st st2 hs hv
  have key : ∀ (ws : List Nat) (j : Nat), (j ∈ ws ∨ st2[j]? = st[j]?) → (wipe st2 ws)[j]? = (wipe st ws)[j]? := by
    intro ws
    induction ws with
    | nil => intro j h; exact h.elim (fun z => nomatch z) id
    | cons w ws ih =>
      intro j h
      unfold wipe
      by_cases e : w = j
      · subst e
        rw [List.getElem?_set, List.getElem?_set, if_pos rfl, if_pos rfl, wipe_length, wipe_length, hs.1]
      · rw [List.getElem?_set_ne e, List.getElem?_set_ne e]
        refine ih j (h.elim (fun z => ?_) .inr)
        rcases List.mem_cons.mp z with z | z
        · exact absurd z.symm e
        · exact .inl z
  refine List.ext_getElem? fun j => key vs j ?_
  by_cases h : j ∈ is
  · exact .inl (hv j h)
  · exact .inr (hs.2 j h)
theorem wipeF_at {F : Fr} {i : Nat} {d : D} : ∀ {vs : List Nat}, (wipeF F vs)[i]? = some (some d) → F[i]? = some (some d) ∧ i ∉ vs
  | [], h => ⟨h, by simp⟩
  | v :: vs, h => by
    unfold wipeF at h
    by_cases hi : v = i
    · subst hi
      rw [List.getElem?_set, if_pos rfl] at h
      split at h <;> cases h
    · rw [List.getElem?_set_ne hi] at h
      obtain ⟨h1, h2⟩ := wipeF_at h
      refine ⟨h1, ?_⟩
      simp only [List.mem_cons, not_or]
      exact ⟨fun e => hi e.symm, h2⟩
theorem wipe_at {st : L2.St} {i : Nat} : ∀ {vs : List Nat}, i ∉ vs → (wipe st vs)[i]? = st[i]?
  | [], _ => rfl
  | v :: vs, h => by
    simp only [List.mem_cons, not_or] at h
    unfold wipe
    rw [List.getElem?_set_ne (fun e => h.1 e.symm)]
    exact wipe_at h.2
theorem wipeF_length (F : Fr) : ∀ vs : List Nat, (wipeF F vs).length = F.length
  | [] => rfl
  | v :: vs => by unfold wipeF; rw [List.length_set, wipeF_length F vs]
theorem RF.wipe {R : RP} {r : List Addr} {H : Hp} {F : Fr} {st : L2.St} (h : RF R r H F st) (vs : List Nat) : RF R r H (wipeF F vs) (L2.wipe st vs) :=
  ⟨by rw [wipeF_length, wipe_length]; exact h.len, fun i d e => by
    obtain ⟨h1, h2⟩ := wipeF_at e
    obtain ⟨v, h3, h4⟩ := h.at_ i d h1
    exact ⟨v, by rw [wipe_at h2]; exact h3, h4⟩⟩
theorem RF.later {R : RP} {r : List Addr} {H : Hp} {F : Fr} {st : L2.St} {hid : List Addr} (h : RF R r H F st) (l : Later R H hid) : RF (R.h hid) r H F st :=
  ⟨h.len, fun i d e => let ⟨v, a, b⟩ := h.at_ i d e; ⟨v, a, b.later l⟩⟩

/-- the target t is stored as bindT says -/
def TgOk (R : RP) (t : Tgt) (g : TG) : Prop :=
  ∀ (hid r : List Addr) (H : Hp) (F F2 : Fr) (st : L2.St) (d : D) (v : V) (Q : L2.St → Hp → Prop), RF (R.h hid) r H F st → Rep (R.h hid) r H d v → bindT t d F = some F2 →
    (∀ st2, RF (R.h hid) r H F2 st2 → SameBut t.slots st st2 → Q st2 H) → g v st H Q
theorem SameBut.set {i : Nat} {st : L2.St} {x : Option V} : SameBut [i] st (st.set i x) := ⟨by simp, fun j h => by rw [List.getElem?_set_ne (fun e => h (by simp [e]))]⟩
theorem SameBut.mono {is js : List Nat} {a b : L2.St} (h : SameBut is a b) (m : ∀ i ∈ is, i ∈ js) : SameBut js a b := ⟨h.1, fun j hj => h.2 j fun z => hj (m j z)⟩
theorem SameBut.trans {is : List Nat} {a b c : L2.St} (h : SameBut is a b) (g : SameBut is b c) : SameBut is a c := ⟨g.1.trans h.1, fun j hj => (g.2 j hj).trans (h.2 j hj)⟩
theorem SameBut.refl {is : List Nat} {a : L2.St} : SameBut is a a := ⟨rfl, fun _ _ => rfl⟩
theorem tg_one {R : RP} (i : Nat) : TgOk R (.one i) (gName i) := by
  intro hid r H F F2 st d v Q hF q e k
  unfold bindT at e
  cases e
  exact k _ (hF.set q) .set
/-- several names -/
def gNames : List Nat → TGs
  | [] => gNil
  | i :: is => gCons (gName i) (gNames is)
theorem tgs_ok {R : RP} : ∀ (is : List Nat) (r : List Addr) (H : Hp) (F F2 : Fr) (st : L2.St) (ds : List D) (vs : List V) (Q : L2.St → Hp → Prop), RF R r H F st → Reps R r H ds vs → setN F is ds = some F2 →
    (∀ st2, RF R r H F2 st2 → SameBut is st st2 → Q st2 H) → gNames is vs st H Q
  | [], r, H, F, F2, st, ds, vs, Q, hF, g, e, k => by
    cases g with
    | nil => unfold setN at e; cases e; exact ⟨rfl, k _ hF .refl⟩
    | cons _ _ => unfold setN at e; cases e
  | i :: is, r, H, F, F2, st, ds, vs, Q, hF, g, e, k => by
    cases g with
    | nil => unfold setN at e; cases e
    | cons q t =>
      unfold setN at e
      refine ⟨_, _, rfl, ?_⟩
      exact tgs_ok is r H _ F2 _ _ _ Q (hF.set q) t e fun st2 h2 sb => k st2 h2 (SameBut.trans (SameBut.set.mono (by simp)) (sb.mono fun _ m => List.mem_cons_of_mem _ m))
theorem setN_len : ∀ {is : List Nat} {ds : List D} {F F2 : Fr}, setN F is ds = some F2 → ds.length = is.length
  | [], [], _, _, _ => rfl
  | [], _ :: _, _, _, e => by unfold setN at e; cases e
  | _ :: _, [], _, _, e => by unfold setN at e; cases e
  | i :: is, d :: ds, _, _, e => by
    unfold setN at e
    rw [List.length_cons, List.length_cons, setN_len e]
theorem tg_tup {R : RP} (is : List Nat) : TgOk R (.tup is) (gTup R.K is.length (gNames is)) := by
  intro hid r H F F2 st d v Q hF q e k
  unfold bindT at e
  dsimp only at e
  split at e
  · cases q with
    | tup f g => exact ⟨_, _, rfl, f.sq, by rw [← g.length]; exact setN_len e, tgs_ok is r H F F2 st _ _ Q hF g e k⟩
  · cases e

/-! ### turns -/
theorem turns_grow {f : D → Sto → Out (List D)} {s : Src} : ∀ {m i : Nat} {ys zs : List D} {S S' : Sto}, turns f s m i ys S = .ok zs S' → ys.length ≤ zs.length
  | 0, i, ys, zs, S, S', e => by
    unfold turns at e
    split at e
    · cases e; exact Nat.le_refl _
    · cases e
  | m + 1, i, ys, zs, S, S', e => by
    unfold turns at e
    split at e
    · rename_i d _
      cases e1 : nox (f d S) with
      | bad => rw [e1] at e; cases e
      | exc x S1 => rw [e1] at e; cases e
      | ok ws S1 =>
        rw [e1] at e
        have := turns_grow (show turns f s m (i + 1) (ys ++ ws) S1 = .ok zs S' from e)
        rw [List.length_append] at this
        omega
    · cases e
theorem turns_nox {f : D → Sto → Out (List D)} {s : Src} : ∀ {m i : Nat} {ys : List D} {S S' : Sto} {x : D}, turns f s m i ys S ≠ .exc x S'
  | 0, i, ys, S, S', x, e => by
    unfold turns at e
    split at e <;> cases e
  | m + 1, i, ys, S, S', x, e => by
    unfold turns at e
    split at e
    · rename_i d _
      cases e1 : nox (f d S) with
      | bad => rw [e1] at e; cases e
      | exc x S1 =>
        unfold nox at e1
        split at e1
        · cases e1
        · rename_i h
          exact h _ _ e1
      | ok ws S1 => rw [e1] at e; exact turns_nox (show turns f s m (i + 1) (ys ++ ws) S1 = .exc x S' from e)
    · cases e
/-- the list that is made stays within its line -/
theorem turns_fit {R : RP} {W : WX} {rs : List Nat} {st : L2.St} {r : List Addr} {H : Hp} {Q : VK} {f : D → Sto → Out (List D)} {s : Src} {m i : Nat} {ys : List D} {S : Sto} {mu : Bool} (h : Sat R W rs st r H (Rep R) ((turns f s m i ys S).bind fun xs S2 => mkList mu xs S2) Q) : ys.length ≤ line := by
  cases e : turns f s m i ys S with
  | bad => rw [e] at h; exact h.elim
  | exc x S1 => exact absurd e turns_nox
  | ok zs S1 =>
    rw [e] at h
    have g := turns_grow e
    simp only [Out.bind, mkList] at h
    split at h
    · omega
    · exact h.elim
end OM
namespace OM
open PySem PySem.Spec PyProof.Rows L2
/-! ### the list is made -/
section
variable {R : RP} {rs : List Nat} {r : List Addr} {S : Sto} {H : Hp} {D' : Addr} {o : HO}
theorem Fre.owned {a : Addr} (f : Fre (R.h (D' :: R.hid)) r a) : Fre R (r ++ [D']) a := ⟨fun m => by
  rcases List.mem_append.mp m with m | m
  · exact f.1 m
  · exact f.2 (by rw [List.mem_singleton] at m; subst m; exact List.mem_cons_self), fun m => f.2 (List.mem_cons_of_mem _ m)⟩
mutual
theorem Rep.owned : ∀ {d : D} {v : V}, Rep (R.h (D' :: R.hid)) r H d v → Rep R (r ++ [D']) H d v
  | _, _, .non => .non
  | _, _, .bl b => .bl b
  | _, _, .int i => .int i
  | _, _, .str x => .str x
  | _, _, .tup f h => .tup (f.elim (fun z => .inl ⟨z.1, z.2.owned⟩) .inr) (Reps.owned h)
  | _, _, .lst q n h => .lst q n.owned (Reps.owned h)
  | _, _, .frz f => .frz (f.elim (fun z => .inl ⟨z.1, z.2.owned⟩) .inr)
  | _, _, .obj q n k h => .obj q n.owned k (Reps.owned h)
  | _, _, .ref h => .ref (by rw [List.getElem?_append_left (List.getElem?_eq_some_iff.mp h).1]; exact h)
  | _, _, .fn k => .fn k
  | _, _, .cls k => .cls k
  | _, _, .ty k => .ty k
theorem Reps.owned : ∀ {ds : List D} {vs : List V}, Reps (R.h (D' :: R.hid)) r H ds vs → Reps R (r ++ [D']) H ds vs
  | _, _, .nil => .nil
  | _, _, .cons h t => .cons h.owned (Reps.owned t)
end
theorem RS.owned (h : RS (R.h (D' :: R.hid)) rs r S H) (ni : D' ∉ R.hid) {ds : List D} {vs : List V} (e : H D' = some (.lst vs)) (g : Reps (R.h (D' :: R.hid)) r H ds vs) : RS R rs (r ++ [D']) (S ++ [.lst ds]) H := by
  have nr : D' ∉ r := (h.hd D' List.mem_cons_self).1
  refine ⟨by simp [h.len], ?_, fun k d q => ?_, fun m hm => ?_, fun a m => ?_⟩
  · rw [List.nodup_append]
    refine ⟨h.nd, by simp, fun a ha b hb => ?_⟩
    rw [List.mem_singleton] at hb
    subst hb
    exact fun z => nr (z ▸ ha)
  · by_cases hk : k < S.length
    · rw [List.getElem?_append_left hk] at q
      obtain ⟨a, u, e1, x, y⟩ := h.cell k d q
      refine ⟨a, u, by rw [List.getElem?_append_left (by rw [h.len]; exact hk)]; exact e1, x, ?_⟩
      cases y with
      | lst g => exact .lst g.owned
      | obj k g => exact .obj k g.owned
    · rw [List.getElem?_append_right (by omega)] at q
      have hz : k - S.length = 0 := by
        have := (List.getElem?_eq_some_iff.mp q).1
        simp at this
        omega
      rw [hz] at q
      cases q
      refine ⟨D', _, ?_, e, .lst g.owned⟩
      rw [List.getElem?_append_right (by rw [h.len]; omega), h.len, hz]
      rfl
  · obtain ⟨h1, h2⟩ := h.reg m hm
    refine ⟨by simp; omega, fun k d hk q => ?_⟩
    rw [List.getElem?_append_left (by omega)] at q
    exact h2 k d hk q
  · obtain ⟨h1, h2⟩ := h.hd a (List.mem_cons_of_mem _ m)
    refine ⟨fun z => ?_, h2⟩
    rcases List.mem_append.mp z with z | z
    · exact h1 z
    · rw [List.mem_singleton] at z
      subst z
      exact ni m
end
theorem Ext.hidw {r r' : List Addr} {H H' : Hp} {p : Addr} {o : HO} (e : Ext r H r' H') (n : H p = none) : Ext r H r' (upd H' p o) :=
  ⟨e.old, fun a u q m => by rw [upd_ne (ne_of_none q n)]; exact e.keep a u q m, e.new⟩
theorem wipe_SB (st : L2.St) (vs : List Nat) : SameBut vs st (wipe st vs) := ⟨wipe_length _ _, fun _ h => wipe_at h⟩

abbrev W0 : WX := fun _ _ _ _ => False
/-- a reading for any lists that are being made -/
def tH {α β : Type} (R : RP) (rs : List Nat) (Rel : RP → List Addr → Hp → α → β → Prop) (g : Fr → Sto → Out α) : L2.St → Hp → (β → Hp → Prop) → Prop :=
  fun st H Q => ∃ hid, tG (R.h hid) W0 rs (Rel (R.h hid)) g st H Q
theorem nox_bind_sat {α β γ : Type} {R : RP} {W : WX} {rs : List Nat} {st : L2.St} {r : List Addr} {H : Hp} {Rel : List Addr → Hp → β → γ → Prop} {o : Out α} {f : α → Sto → Out β} {Q : γ → Hp → Prop} (h : Sat R W rs st r H Rel ((nox o).bind f) Q) : ∃ a S, o = .ok a S ∧ Sat R W rs st r H Rel (f a S) Q := by
  cases o with
  | ok a S => exact ⟨a, S, rfl, h⟩
  | exc _ _ => exact h.elim
  | bad => exact h.elim
section
variable {R : RP} {W : WX} {rs : List Nat} {X : Cx} {N : List Str} {c : Scp}
def turnF (C : Cxt) (rs : List Nat) (e : CE) (t : Tgt) (ifs : List CE) (Fw : Fr) : D → Sto → Out (List D) := fun x S2 => match bindT t x Fw with
  | some F2 => (evT C rs ifs F2 S2).bind fun b S3 => if b then evG C rs (ev C rs e) [] F2 F2 S3 else .ok [] S3
  | none => .bad
theorem ev_comp1 {C : Cxt} {mu : Bool} {e : CE} {t : Tgt} {it : IT} {ifs : List CE} {F : Fr} {S : Sto} : ev C rs (.comp mu e [.mk t it ifs]) F S = (evI C rs it F S).bind fun s S1 => (turns (turnF C rs e t ifs (wipeF F t.slots)) s s.len 0 [] S1).bind fun xs S2 => mkList mu xs S2 := by
  simp only [ev, evG, ownOf, List.append_nil, Out.bind_assoc]
  rfl
theorem lc_fact {mu : Bool} {e : CE} {t : Tgt} {it : IT} {ifs : List CE} {own : List (Str × Nat)} {C : Cxt} {g : TG} (hown : own.map (·.2) = t.slots) (hgt : TgOk R t g) {st : L2.St} {H : Hp} {Q : VK} (hh : tG R W rs (Rep R) (ev C rs (.comp mu e [.mk t it ifs])) st H Q) :
    tLc (tG R W rs (fun r H s J => Srv R rs s J r H) (evI C rs it)) g (tH R rs (fun _ => eqB) (evT C rs ifs)) (tH R rs Rep (ev C rs e)) (own.map (·.2)) st H Q := by
  obtain ⟨r, F, S, h, hF, hs⟩ := hh
  rw [ev_comp1] at hs
  rw [hown]
  refine bindG h hF hs fun r1 S1 H1 src J e1 h1 hF1 srv hs D' hD => ?_
  have lt := later_new (R := R) hD
  have nh : D' ∉ R.hid := fun m => by
    obtain ⟨_, o, q⟩ := h1.hd D' m
    rw [hD] at q; cases q
  generalize hf : turnF C rs e t ifs (wipeF F t.slots) = f at hs
  refine ⟨fun i m H' => ∃ r2 S2 acc accV, Ext r1 H1 r2 H' ∧ RS (R.h (D' :: R.hid)) rs r2 S2 H' ∧ H' D' = some (.lst accV) ∧ Reps (R.h (D' :: R.hid)) r2 H' acc accV ∧ Sat R W rs st r1 H1 (Rep R) ((turns f src m i acc S2).bind fun xs S2 => mkList mu xs S2) Q,
    ⟨src.len, r1, S1, [], [], .fresh hD, h1.later hD, upd_same, .nil, hs⟩, ?_⟩
  rintro i m H' ⟨r2, S2, acc, accV, x2, h2, hD2, g2, hs2⟩
  have sv := srv (D' :: R.hid) r2 S2 H' i lt x2 h2
  have fit := turns_fit hs2
  cases m with
  | zero =>
    left
    unfold turns at hs2
    split at hs2
    · rename_i es
      refine ⟨sv.2 es, ?_⟩
      simp only [Out.bind, mkList, if_pos fit] at hs2
      cases mu with
      | true =>
        simp only [if_true] at hs2
        refine hs2 (r2 ++ [D']) H' (.ref D') ⟨fun k hk => ?_, x2.keep, fun a m => ?_⟩ (h2.owned nh hD2 g2) (.ref ?_)
        · rw [List.getElem?_append_left (Nat.lt_of_lt_of_le hk x2.len)]
          exact x2.old k hk
        · rcases List.mem_append.mp m with m | m
          · exact x2.new a m
          · rw [List.mem_singleton] at m
            subst m
            exact .inr hD
        · rw [← h2.len, List.getElem?_append_right (Nat.le_refl _), Nat.sub_self]
          rfl
      | false =>
        simp only [Bool.false_eq_true, if_false] at hs2
        exact hs2 r2 H' (.ref D') x2 h2.less (.lst hD2 ⟨(h2.hd D' List.mem_cons_self).1, nh⟩ g2.less)
    · exact hs2.elim
  | succ m =>
    right
    simp only [turns] at hs2
    split at hs2
    · rename_i d es
      obtain ⟨sg, sy⟩ := sv.1 d es
      refine ⟨sg, fun H'' => ∃ r2 S2 acc accV, Ext r1 H1 r2 H'' ∧ RS (R.h (D' :: R.hid)) rs r2 S2 H'' ∧ H'' D' = some (.lst accV) ∧ Reps (R.h (D' :: R.hid)) r2 H'' acc accV ∧ Sat R W rs st r1 H1 (Rep R) ((turns f src m (i + 1) acc S2).bind fun xs S2 => mkList mu xs S2) Q, fun H'' q => ⟨m, Nat.lt_succ_self _, q⟩, fun x H3 y => ?_⟩
      obtain ⟨x3, h3, q3⟩ := sy x H3 y
      rw [Out.bind_assoc] at hs2
      obtain ⟨zs, S6, ef, hs6⟩ := nox_bind_sat hs2
      rw [← hf] at ef
      unfold turnF at ef
      have hF3 : RF (R.h (D' :: R.hid)) r2 H3 (wipeF F t.slots) (wipe st t.slots) := (((hF1.later lt).ext x2).ext x3).wipe _
      have nr2 : D' ∉ r2 := (h2.hd D' List.mem_cons_self).1
      have hD3 : H3 D' = some (.lst accV) := x3.keep _ _ hD2 nr2
      split at ef
      · rename_i F2 eb
        refine hgt _ r2 H3 _ F2 _ d x _ hF3 q3 eb fun st2 hF4 sb => ?_
        refine ⟨?_, D' :: R.hid, r2, F2, S2, h3, hF4, ?_⟩
        · exact wipe_same t.slots ((wipe_SB st t.slots).trans sb) fun _ m => m
        · cases et : evT C rs ifs F2 S2 with
          | bad => rw [et] at ef; cases ef
          | exc _ _ => rw [et] at ef; cases ef
          | ok b S4 =>
            rw [et] at ef
            simp only [Out.bind] at ef
            intro r4 H4 b' x4 h4 eb'
            have eb' : b = b' := eb'
            subst eb'
            have g4 := (g2.ext x3).ext x4
            have nr3 : D' ∉ r2 := (h3.hd D' List.mem_cons_self).1
            have hD4 := x4.keep _ _ hD3 nr3
            cases b with
            | false =>
              simp only [Bool.false_eq_true, if_false] at ef ⊢
              cases ef
              rw [List.append_nil] at hs6
              exact ⟨r4, _, acc, accV, (x2.trans x3).trans x4, h4, hD4, g4, hs6⟩
            | true =>
              simp only [if_true] at ef ⊢
              simp only [evG] at ef
              refine ⟨D' :: R.hid, r4, F2, S4, h4, hF4.ext x4, ?_⟩
              cases ee : ev C rs e F2 S4 with
              | bad => rw [ee] at ef; cases ef
              | exc _ _ => rw [ee] at ef; cases ef
              | ok y5 S5 =>
                rw [ee] at ef
                simp only [Out.bind] at ef
                cases ef
                intro r5 H5 yv x5 h5 q5
                have hD5 := x5.keep _ _ hD4 (h4.hd D' List.mem_cons_self).1
                have fit6 := turns_fit hs6
                rw [List.length_append, List.length_singleton] at fit6
                refine ⟨accV, hD5, ?_, r5, _, acc ++ [y5], accV ++ [yv], (((x2.trans x3).trans x4).trans x5).hidw hD, h5.hidw List.mem_cons_self, upd_same, ?_, hs6⟩
                · rw [← g2.length, ← line_eq]
                  omega
                · exact Reps.append ((g4.ext x5).hidw List.mem_cons_self) (.cons (q5.hidw List.mem_cons_self) .nil)
      · cases ef
    · exact hs2.elim
theorem se_comp1 {mu : Bool} {e : CE} {t : Tgt} {it : IT} {ifs : List CE} {elt tg iter : Expr} {ifsE : List Expr} {scope : Scope} {own : List (Str × Nat)} {pos : Pos} {C : Cxt} {g : TG} (hc : X.calm = true) (hN : X.N.Nodup) (hi : SI R W rs X tg iter (evI C rs it)) (ok : BlkOk X.N X.env.scope scope own) (hown : own.map (·.2) = t.slots)
    (hg : ∀ (s : Shared) (H : Hp) (C : Addr) (cl : List (Str × Addr)) (fp : List Addr), PG (X.blk s H scope (compEnvC scope cl C X.env) fp) tg g) (hgt : TgOk R t g)
    (ht : ∀ (s : Shared) (H : Hp) (Ca : Addr) (cl : List (Str × Addr)) (fp : List Addr), PTs (X.blk s H scope (compEnvC scope cl Ca X.env) fp) ifsE (tH R rs (fun _ => eqB) (evT C rs ifs)))
    (he : ∀ (s : Shared) (H : Hp) (Ca : Addr) (cl : List (Str × Addr)) (fp : List Addr), PE (X.blk s H scope (compEnvC scope cl Ca X.env) fp) elt (tH R rs Rep (ev C rs e))) (hs : ∀ x, foldedSetIterable iter X.env x = pure x) :
    SE R W rs X (.ListComp elt [⟨tg, iter, ifsE, 0⟩] scope pos) (ev C rs (.comp mu e [.mk t it ifs])) :=
  (pe_lc (pos := pos) hc hN hi ok hg ht he hs).imp fun st H Q h => lc_fact hown hgt h
end
end OM
set_option Elab.async false
set_option linter.all false
set_option maxRecDepth 100000
set_option maxHeartbeats 1000000
/-! OmStmt: statements: their evaluator, each from its parts. -/
namespace OM
open PySem PySem.Spec PyProof.Rows L2

inductive OS where
  | nx (F : Fr) (S : Sto)
  | ret (d : D) (S : Sto)
  | brk (F : Fr) (S : Sto)
  | cnt (F : Fr) (S : Sto)
  | exc (x : D) (F : Fr) (S : Sto)
  | bad
def Out.run {α : Type} (o : Out α) (F : Fr) (k : α → Sto → OS) : OS :=
  match o with
  | .ok a S => k a S
  | .exc x S => .exc x F S
  | .bad => .bad
def OS.seq (o : OS) (k : Fr → Sto → OS) : OS :=
  match o with
  | .nx F S => k F S
  | o => o
def turnsS (f : D → Fr → Sto → OS) (s : Src) : Nat → Nat → Fr → Sto → OS
  | 0, i, F, S => match srcAt S s i with
    | some none => .nx F S
    | _ => .bad
  | m + 1, i, F, S => match srcAt S s i with
    | some (some d) => match f d F S with
      | .nx F1 S1 => turnsS f s m (i + 1) F1 S1
      | .cnt F1 S1 => turnsS f s m (i + 1) F1 S1
      | .brk F1 S1 => .nx F1 S1
      | o => o
    | _ => .bad
def whlS (c : Fr → Sto → Out Bool) (f : Fr → Sto → OS) : Nat → Fr → Sto → OS
  | 0, _, _ => .bad
  | n + 1, F, S => (c F S).run F fun b S1 => if b then match f F S1 with
      | .nx F2 S2 => whlS c f n F2 S2
      | .cnt F2 S2 => whlS c f n F2 S2
      | .brk F2 S2 => .nx F2 S2
      | o => o
    else .nx F S1
/-- more turns than any loop here takes -/
def manyTurns : Nat := 1000000
def vSet (rs : List Nat) (o i v : D) (S : Sto) : Option Sto :=
  match o, i with
  | .ref n, .int j => match S[n]? with
    | some (.lst ys) => match place j ys.length with
      | some k => if fitsIn rs n v then some (S.set n (.lst (ys.set k v))) else none
      | none => none
    | _ => none
  | _, _ => none
def vAug (o : BinO) (x y : D) : Option D :=
  match o, x, y with
  | .add, .int i, .int j => some (.int (i + j))
  | .sub, .int i, .int j => some (.int (i - j))
  | _, _, _ => none
mutual
def evS (X : Cxt) (rs : List Nat) : CS → Fr → Sto → OS
  | .exp e, F, S => (ev X rs e F S).run F fun _ S1 => .nx F S1
  | .ret e, F, S => (ev X rs e F S).run F fun d S1 => .ret d S1
  | .retN, F, S => .ret .non S
  | .set i e, F, S => (ev X rs e F S).run F fun d S1 => .nx (F.set i (some d)) S1
  | .unp is e, F, S => (ev X rs e F S).run F fun d S1 => match bindT (.tup is) d F with
    | some F2 => .nx F2 S1
    | none => .bad
  | .par is es, F, S => (evL X rs es F S).run F fun ds S1 => match setN F is ds with
    | some F2 => .nx F2 S1
    | none => .bad
  | .sub o i e, F, S => (ev X rs e F S).run F fun v S1 => (ev X rs o F S1).run F fun ov S2 => (ev X rs i F S2).run F fun iv S3 => match vSet rs ov iv v S3 with
    | some S4 => .nx F S4
    | none => .bad
  | .fld _ _ _, _, _ => .bad
  | .aug i o e, F, S => match F[i]? with
    | some (some x) => (ev X rs e F S).run F fun y S1 => match vAug o x y with
      | some z => .nx (F.set i (some z)) S1
      | none => .bad
    | _ => .bad
  | .cond c a b, F, S => (ev X rs c F S).run F fun x S1 => match truth S1 x with
    | some true => evSs X rs a F S1
    | some false => evSs X rs b F S1
    | none => .bad
  | .loop t it b, F, S => (evI X rs it F S).run F fun s S1 => turnsS (fun d F2 S2 => match bindT t d F2 with
      | some F3 => evSs X rs b F3 S2
      | none => .bad) s s.len 0 F S1
  | .whl c b, F, S => whlS (fun F S => (ev X rs c F S).bind fun x S1 => match truth S1 x with
      | some b => .ok b S1
      | none => .bad) (evSs X rs b) manyTurns F S
  | .pas, F, S => .nx F S
  | .brk, F, S => .brk F S
  | .cnt, F, S => .cnt F S
def evSs (X : Cxt) (rs : List Nat) : List CS → Fr → Sto → OS
  | [], F, S => .nx F S
  | s :: r, F, S => (evS X rs s F S).seq (evSs X rs r)
end
/-- a def's answer -/
def OS.out : OS → Out D
  | .nx _ S => .ok .non S
  | .ret d S => .ok d S
  | .exc x _ S => .exc x S
  | _ => .bad
/-- what a def does with its arguments -/
def FD.run (X : Cxt) (F : FD) (vs : List D) (rs : List Nat) (S : Sto) : Out D :=
  (evSs X rs F.body (vs.map some ++ List.replicate (F.ns - vs.length) none) S).out

/-! ### judgements -/
def SatS (R : RP) (W : WX) (rs : List Nat) (r : List Addr) (H : Hp) (o : OS) (D' : Ends) : Prop :=
  match o with
  | .nx F S => ∀ r' H' st, Ext r H r' H' → RS R rs r' S H' → RF R r' H' F st → D'.nx st H'
  | .ret d S => ∀ r' H' v, Ext r H r' H' → RS R rs r' S H' → Rep R r' H' d v → D'.rt v H'
  | .brk F S => ∀ r' H' st, Ext r H r' H' → RS R rs r' S H' → RF R r' H' F st → D'.bk st H'
  | .cnt F S => ∀ r' H' st, Ext r H r' H' → RS R rs r' S H' → RF R r' H' F st → D'.ct st H'
  | .exc x F S => ∀ r' H' st cls dd, Ext r H r' H' → RS R rs r' S H' → RF R r' H' F st → RepX R r' H' x cls dd → W cls dd st H'
  | .bad => False
section
variable {R : RP} {W : WX} {rs : List Nat} {r r1 : List Addr} {H H1 : Hp} {D' : Ends} {st : L2.St} {F : Fr} {S : Sto}
theorem SatS.shift {o : OS} (e : Ext r H r1 H1) (h : SatS R W rs r H o D') : SatS R W rs r1 H1 o D' := by
  cases o with
  | nx F S => exact fun r' H' st e' => h r' H' st (e.trans e')
  | ret d S => exact fun r' H' v e' => h r' H' v (e.trans e')
  | brk F S => exact fun r' H' st e' => h r' H' st (e.trans e')
  | cnt F S => exact fun r' H' st e' => h r' H' st (e.trans e')
  | exc x F S => exact fun r' H' st c d e' => h r' H' st c d (e.trans e')
  | bad => exact h
def tS (R : RP) (W : WX) (rs : List Nat) (g : Fr → Sto → OS) : TS := fun D' st H => ∃ r F S, RS R rs r S H ∧ RF R r H F st ∧ SatS R W rs r H (g F S) D'
theorem bindR {α β : Type} {Rel : List Addr → Hp → α → β → Prop} {g : Fr → Sto → Out α} {f : α → Sto → OS} {Q1 : β → Hp → Prop}
    (h : RS R rs r S H) (hF : RF R r H F st) (hs : SatS R W rs r H ((g F S).run F f) D')
    (k : ∀ r1 S1 H1 a x, Ext r H r1 H1 → RS R rs r1 S1 H1 → RF R r1 H1 F st → Rel r1 H1 a x → SatS R W rs r1 H1 (f a S1) D' → Q1 x H1) : tG R W rs Rel g st H Q1 := by
  refine ⟨r, F, S, h, hF, ?_⟩
  cases e : g F S with
  | ok a S1 =>
    rw [e] at hs
    exact fun r1 H1 x e1 h1 rx => k r1 S1 H1 a x e1 h1 (hF.ext e1) rx (SatS.shift e1 hs)
  | exc x S1 =>
    rw [e] at hs
    exact fun r' H' c d e' h' rx => hs r' H' st c d e' h' (hF.ext e') rx
  | bad => rw [e] at hs; exact hs
theorem SatS.fin {F : Fr} (hs : SatS R W rs r H (.nx F S) D') (h : RS R rs r S H) (q : RF R r H F st) : D'.nx st H := hs r H st (.refl _ _) h q
end
def SS (R : RP) (W : WX) (rs : List Nat) (X : Cx) (s : Stmt) (g : Fr → Sto → OS) : Prop := PS X s (tS R W rs g)
def SSs (R : RP) (W : WX) (rs : List Nat) (X : Cx) (s : List Stmt) (g : Fr → Sto → OS) : Prop := PSs X s (tS R W rs g)

def notComp : Expr → Bool
  | .ListComp _ _ _ _ => false
  | .SetComp _ _ _ _ => false
  | .DictComp _ _ _ _ _ => false
  | _ => true
theorem sw_no {e : Expr} {t : Option Expr} {l : Nat} {env : Env} (h : notComp e = true) : swapsWith e t l env = pure false := by
  cases e <;> first | rfl | cases h
def isName : Expr → Bool
  | .Name _ _ => true
  | _ => false
theorem sw_tg {e t : Expr} {l : Nat} {env : Env} (h : isName t = false) : swapsWithSole [t] e l env = pure false := by
  show swapsWith e (some t) l env = _
  cases t <;> first | (cases e <;> rfl) | cases h
def notTup : Expr → Bool
  | .Tuple _ _ _ => false
  | _ => true
theorem ss_no {t e : Expr} {env : Env} (h : (notTup t || notTup e) = true) (hl : ∀ es p, t ≠ .List es p) : swappedStores [t] e env = pure none := by
  unfold swappedStores
  cases t <;> first | exact absurd rfl (hl _ _) | rfl | (cases e <;> first | rfl | cases h)

section
variable {R : RP} {W : WX} {rs : List Nat} {X : Cx} {N : List Str} {c : Scp}
theorem sss_nil {C : Cxt} : SSs R W rs X [] (evSs C rs []) := by
  refine pss_nil.imp fun D' st H ⟨r, F, S, h, hF, hs⟩ => ?_
  simp only [evSs] at hs
  exact hs.fin h hF
theorem seq_sat {o : OS} {k : Fr → Sto → OS} {r : List Addr} {H : Hp} {D' : Ends} (hs : SatS R W rs r H (o.seq k) D') : SatS R W rs r H o { D' with nx := tS R W rs k D' } := by
  cases o with
  | nx F S => exact fun r' H' st e h hF => ⟨r', F, S, h, hF, SatS.shift e hs⟩
  | ret d S => exact hs
  | brk F S => exact hs
  | cnt F S => exact hs
  | exc x F S => exact hs
  | bad => exact hs
theorem sss_cons {s : CS} {ss : List CS} {e : Stmt} {es : List Stmt} {C : Cxt} (h1 : SS R W rs X e (evS C rs s)) (h2 : SSs R W rs X es (evSs C rs ss)) : SSs R W rs X (e :: es) (evSs C rs (s :: ss)) := by
  refine (pss_cons h1 h2).imp fun D' st H ⟨r, F, S, h, hF, hs⟩ => ?_
  simp only [evSs] at hs
  exact ⟨r, F, S, h, hF, seq_sat hs⟩
theorem ss_pas {pos : Pos} {C : Cxt} : SS R W rs X (.Pass pos) (evS C rs .pas) := by
  refine ps_pass.imp fun D' st H ⟨r, F, S, h, hF, hs⟩ => ?_
  simp only [evS] at hs
  exact hs.fin h hF
theorem ss_brk {pos : Pos} {C : Cxt} : SS R W rs X (.Break pos) (evS C rs .brk) := by
  refine ps_break.imp fun D' st H ⟨r, F, S, h, hF, hs⟩ => ?_
  simp only [evS] at hs
  exact hs r H st (.refl _ _) h hF
theorem ss_cnt {pos : Pos} {C : Cxt} : SS R W rs X (.Continue pos) (evS C rs .cnt) := by
  refine ps_continue.imp fun D' st H ⟨r, F, S, h, hF, hs⟩ => ?_
  simp only [evS] at hs
  exact hs r H st (.refl _ _) h hF
theorem ss_exp {a : CE} {e : Expr} {pos : Pos} {C : Cxt} (he : SE R W rs X e (ev C rs a)) (nc : notComp e = true) : SS R W rs X (.Expr e pos) (evS C rs (.exp a)) := by
  refine (ps_expr (pos := pos) he (sw_no nc)).imp fun D' st H ⟨r, F, S, h, hF, hs⟩ => ?_
  simp only [evS] at hs
  exact bindR h hF hs fun r1 S1 H1 x xv e1 h1 hF1 qx hs => hs.fin h1 hF1
theorem ss_doc {x : Str} {j : Nat} {pos pos' : Pos} {C : Cxt} : SS R W rs X (.Expr (.Constant (.str x) j pos) pos') (evS C rs .pas) := by
  refine ps_doc.imp fun D' st H ⟨r, F, S, h, hF, hs⟩ => ?_
  simp only [evS] at hs
  exact hs.fin h hF
theorem ss_ret {a : CE} {e : Expr} {pos : Pos} {C : Cxt} (he : SE R W rs X e (ev C rs a)) : SS R W rs X (.Return (some e) pos) (evS C rs (.ret a)) := by
  refine (ps_ret (pos := pos) he).imp fun D' st H ⟨r, F, S, h, hF, hs⟩ => ?_
  simp only [evS] at hs
  exact bindR h hF hs fun r1 S1 H1 x xv e1 h1 hF1 qx hs => hs r1 H1 xv (.refl _ _) h1 qx
theorem ss_retN {pos : Pos} {C : Cxt} : SS R W rs X (.Return none pos) (evS C rs .retN) := by
  refine ps_retN.imp fun D' st H ⟨r, F, S, h, hF, hs⟩ => ?_
  simp only [evS] at hs
  exact hs r H .non (.refl _ _) h .non
/-- a name that may be stored -/
def chkSt (N : List Str) (c : Scp) (i : Nat) (x : Str) : Bool := decide (N[i]? = some x) && (isNm c.sc .local x || (isNm c.sc .cell x && c.fn x))
theorem st_of (ok : XOk R N c X) {i : Nat} {x : Str} (h : chkSt N c i x = true) : X.N[i]? = some x ∧ Loc X.env.scope x ∧ (X.fn x = true ∨ X.env.scope.names.lookup x = some .local) := by
  unfold chkSt at h
  simp only [Bool.and_eq_true, Bool.or_eq_true, decide_eq_true_eq] at h
  obtain ⟨h1, h2⟩ := h
  rw [ok.hN]
  rcases h2 with h2 | ⟨h2, h3⟩
  · have := isNm_iff h2
    rw [← ok.sc] at this
    exact ⟨h1, .inl this, .inr this⟩
  · have := isNm_iff h2
    rw [← ok.sc] at this
    exact ⟨h1, .inr this, .inl (by rw [ok.fn]; exact h3)⟩
theorem ss_set {i : Nat} {x : Str} {a : CE} {e : Expr} {pos p : Pos} {C : Cxt} (ok : XOk R N c X) (he : SE R W rs X e (ev C rs a)) (hc : chkSt N c i x = true) (sw : swapsWith e (some (.Name x p)) pos.line X.env = pure false) : SS R W rs X (.Assign [.Name x p] e pos) (evS C rs (.set i a)) := by
  obtain ⟨h1, h2, h3⟩ := st_of ok hc
  refine (ps_set (pos := pos) (pos' := p) (by rw [ok.hN]; exact ok.nd) h1 h2 he sw h3).imp fun D' st H ⟨r, F, S, h, hF, hs⟩ => ?_
  simp only [evS] at hs
  exact bindR h hF hs fun r1 S1 H1 x xv e1 h1 hF1 qx hs => hs.fin h1 (hF1.set qx)
/-- x = [.. for ..] -/
theorem ss_setC {i : Nat} {x : Str} {p spos : Pos} {mu : Bool} {e : CE} {t : Tgt} {it : IT} {ifs : List CE} {elt tg iter : Expr} {ifsE : List Expr} {scope : Scope} {own : List (Str × Nat)} {pos : Pos} {C : Cxt} {g : TG} (xok : XOk R N c X) (hi : SI R W rs X tg iter (evI C rs it)) (ok : BlkOk X.N X.env.scope scope own) (hown : own.map (·.2) = t.slots)
    (hg : ∀ (s : Shared) (H : Hp) (C : Addr) (cl : List (Str × Addr)) (fp : List Addr), PG (X.blk s H scope (compEnvC scope cl C X.env) fp) tg g) (hgt : TgOk R t g)
    (ht : ∀ (s : Shared) (H : Hp) (Ca : Addr) (cl : List (Str × Addr)) (fp : List Addr), PTs (X.blk s H scope (compEnvC scope cl Ca X.env) fp) ifsE (tH R rs (fun _ => eqB) (evT C rs ifs)))
    (he : ∀ (s : Shared) (H : Hp) (Ca : Addr) (cl : List (Str × Addr)) (fp : List Addr), PE (X.blk s H scope (compEnvC scope cl Ca X.env) fp) elt (tH R rs Rep (ev C rs e))) (hs : ∀ x, foldedSetIterable iter X.env x = pure x)
    (hx : N[i]? = some x) (hl : isNm c.sc .local x = true) (hk : X.env.scope.kind = .function) (hp : (p.line == pos.line) = true) (hn : (scope.names.any fun (n, k) => n == x && (k == .local || k == .cell)) = false) :
    SS R W rs X (.Assign [.Name x p] (.ListComp elt [⟨tg, iter, ifsE, 0⟩] scope pos) spos) (evS C rs (.set i (.comp mu e [.mk t it ifs]))) := by
  have hy : X.env.scope.names.lookup x = some .local := by rw [xok.sc]; exact isNm_iff hl
  have hN : X.N.Nodup := by rw [xok.hN]; exact xok.nd
  refine (ps_setLc (spos := spos) xok.calm hN (by rw [xok.hN]; exact hx) hy (sw_true hk hy hp hn) hi ok hg ht he hs).imp fun D' st H ⟨r, F, S, h, hF, hs⟩ => ?_
  simp only [evS] at hs
  exact lc_fact hown hgt (bindR h hF hs fun r1 S1 H1 x xv e1 h1 hF1 qx hs => hs.fin h1 (hF1.set qx))
/-- targets that are names -/
def chkNs (N : List Str) (c : Scp) : List Nat → List Expr → Bool
  | [], [] => true
  | i :: is, .Name x _ :: es => chkSt N c i x && chkNs N c is es
  | _, _ => false
theorem pgs_of (ok : XOk R N c X) : ∀ {is : List Nat} {es : List Expr}, chkNs N c is es = true → PGs X es (gNames is) ∧ (assignEach es X.env).length = is.length ∧ (assignEach es X.env).findIdx? (·.1) = none
  | [], [], _ => ⟨pgs_nil, rfl, rfl⟩
  | [], _ :: _, h => by unfold chkNs at h; cases h
  | _ :: _, [], h => by unfold chkNs at h; cases h
  | i :: is, e :: es, h => by
    unfold chkNs at h
    cases e with
    | Name x p =>
      dsimp only at h
      rw [Bool.and_eq_true] at h
      obtain ⟨h1, h2, h3⟩ := st_of ok h.1
      obtain ⟨g1, g2, g3⟩ := pgs_of ok h.2
      refine ⟨pgs_cons (pg_name (by rw [ok.hN]; exact ok.nd) h1 h2 h3) g1, ?_, ?_⟩
      · show (assignEach es X.env).length + 1 = _
        rw [g2]
        rfl
      · have e : assignEach (.Name x p :: es) X.env = (false, assign (.Name x p) X.env) :: assignEach es X.env := rfl
        rw [e, List.findIdx?_cons]
        simp [g3]
    | _ => cases h
def tgOf (R : RP) : Tgt → TG
  | .one i => gName i
  | .tup is => gTup R.K is.length (gNames is)
def chkTg (N : List Str) (c : Scp) : Tgt → Expr → Bool
  | .one i, .Name x _ => chkSt N c i x
  | .tup is, .Tuple es _ _ => chkNs N c is es
  | _, _ => false
theorem tg_ok (t : Tgt) : TgOk R t (tgOf R t) := by
  cases t with
  | one i => exact tg_one i
  | tup is => exact tg_tup is
theorem pg_of (ok : XOk R N c X) {t : Tgt} {e : Expr} (h : chkTg N c t e = true) : PG X e (tgOf R t) := by
  unfold chkTg at h
  split at h
  · obtain ⟨h1, h2, h3⟩ := st_of ok h
    exact pg_name (by rw [ok.hN]; exact ok.nd) h1 h2 h3
  · obtain ⟨g1, g2, g3⟩ := pgs_of ok h
    show PG X _ (gTup R.K _ _)
    rw [← ok.K]
    exact pg_tup ok.calm g1 g2 g3
  · cases h
theorem ss_unp {is : List Nat} {a : CE} {es : List Expr} {k : Nat} {e : Expr} {pos p : Pos} {C : Cxt} (ok : XOk R N c X) (he : SE R W rs X e (ev C rs a)) (hc : chkNs N c is es = true) (sw : swappedStores [.Tuple es k p] e X.env = pure none) : SS R W rs X (.Assign [.Tuple es k p] e pos) (evS C rs (.unp is a)) := by
  refine (ps_asg (pos := pos) he (pg_of ok (t := .tup is) (e := .Tuple es k p) hc) (sw_tg rfl) sw).imp fun D' st H ⟨r, F, S, h, hF, hs⟩ => ?_
  simp only [evS] at hs
  refine bindR h hF hs fun r1 S1 H1 x xv e1 h1 hF1 qx hs => ?_
  split at hs
  · rename_i F2 eb
    have ok' : TgOk R (.tup is) (tgOf R (.tup is)) := tg_ok _
    exact ok' R.hid r1 H1 F F2 st x xv _ hF1 qx eb fun st2 hF2 _ => hs.fin h1 hF2
  · exact hs.elim
theorem ss_sub {o i a : CE} {eo ei e : Expr} {pos p : Pos} {C : Cxt} (ok : XOk R N c X) (ho : SE R W rs X eo (ev C rs o)) (hi : SE R W rs X ei (ev C rs i)) (he : SE R W rs X e (ev C rs a)) (ns : noSlice ei = true) : SS R W rs X (.Assign [.Subscript eo ei p] e pos) (evS C rs (.sub o i a)) := by
  refine (ps_asg (pos := pos) he (pg_sub (pos := p) ho hi set_list ?_) (sw_tg rfl) (ss_no rfl (by intro _ _ z; cases z))).imp fun D' st H ⟨r, F, S, h, hF, hs⟩ => ?_
  · intro v
    cases ei <;> first | rfl | cases ns
  simp only [evS] at hs
  refine bindR h hF hs fun r1 S1 H1 v vv e1 h1 hF1 qv hs => bindR h1 hF1 hs fun r2 S2 H2 ov ovv e2 h2 hF2 qo hs => bindR h2 hF2 hs fun r3 S3 H3 iv ivv e3 h3 hF3 qi hs => ?_
  have qv3 := (qv.ext e2).ext e3
  have qo3 := qo.ext e3
  split at hs
  · rename_i S4 es
    unfold vSet at es
    split at es
    · rename_i n j
      cases qi
      cases qo3 with
      | @ref n a z =>
      obtain ⟨cc, u, x1, x2, x3⟩ := h3.at z
      split at es
      · rename_i ys ey
        rw [x1] at ey
        cases ey
        cases x3 with
        | lst g =>
        split at es
        · rename_i k ek
          split at es
          · rename_i fits
            cases es
            refine ⟨a, _, j, k, rfl, rfl, x2, by rw [← g.length]; exact place_ix ek, ?_⟩
            have ma : a ∈ r3 := List.mem_of_getElem? z
            refine hs r3 _ st (.write ma) (h3.write z (.lst ((g.set k qv3).ext (.write ma))) fun m hm hlt => ?_) (hF3.ext (.write ma))
            have lo : ∀ {ds : List D} {d : D} (k : Nat), loL m ds = true → d.lo m = true → loL m (ds.set k d) = true := by
              intro ds
              induction ds with
              | nil => intro d k _ _; rfl
              | cons y ys ih =>
                intro d k h1 h2
                unfold loL at h1
                rw [Bool.and_eq_true] at h1
                cases k with
                | zero => show loL m (d :: ys) = true; unfold loL; rw [h2, h1.2]; rfl
                | succ k => show loL m (y :: ys.set k d) = true; unfold loL; rw [h1.1, ih k h1.2 h2]; rfl
            have fz := (List.all_eq_true.mp fits) m hm
            rw [Bool.or_eq_true, decide_eq_true_eq] at fz
            exact lo k ((h3.reg m hm).2 n _ hlt x1) (fz.resolve_left (by omega))
          · cases es
        · cases es
      · cases es
    · cases es
  · exact hs.elim
def augOf : BinO → Operator
  | .sub => .Sub
  | _ => .Add
theorem ss_aug {i : Nat} {x : Str} {o : BinO} {a : CE} {e : Expr} {pos p : Pos} {C : Cxt} (ok : XOk R N c X) (he : SE R W rs X e (ev C rs a)) (hc : chkSt N c i x = true) (hx : Vis X.env.scope x) : SS R W rs X (.AugAssign (.Name x p) (augOf o) e pos) (evS C rs (.aug i o a)) := by
  obtain ⟨h1, h2, h3⟩ := st_of ok hc
  have hN : X.N.Nodup := by rw [ok.hN]; exact ok.nd
  have key : ∀ (f : Int → Int → Int), (∀ x y z, vAug o x y = some z → ∃ i j, x = .int i ∧ y = .int j ∧ z = .int (f i j)) → ∀ D' st H, tS R W rs (evS C rs (.aug i o a)) D' st H → tAug i (tG R W rs (Rep R) (ev C rs a)) (ipI f) D' st H := by
    intro f hf D' st H ⟨r, F, S, h, hF, hs⟩
    simp only [evS] at hs
    split at hs
    · rename_i x ex
      obtain ⟨xv, ev1, qx⟩ := hF.at_ i x ex
      refine ⟨xv, ev1, bindR h hF hs fun r1 S1 H1 y yv e1 h1 hF1 qy hs => ?_⟩
      split at hs
      · rename_i z ez
        obtain ⟨i', j', rfl, rfl, rfl⟩ := hf _ _ _ ez
        cases qx
        cases qy
        exact ⟨_, _, rfl, rfl, hs.fin h1 (hF1.set (.int _))⟩
      · exact hs.elim
    · exact hs.elim
  have none_of : (∀ x y, vAug o x y = none) → ∀ D' st H, tS R W rs (evS C rs (.aug i o a)) D' st H → tAug i (tG R W rs (Rep R) (ev C rs a)) (ipI fun i j => i + j) D' st H := by
    intro hn
    exact key _ fun x y z e => by rw [hn] at e; cases e
  cases o with
  | add =>
    refine (ps_aug (pos := pos) (pos' := p) hN h1 h2 he ip_add h3).imp (key _ fun x y z e => ?_)
    unfold vAug at e
    split at e
    · cases e; exact ⟨_, _, rfl, rfl, rfl⟩
    · rename_i h; cases h
    · cases e
  | sub =>
    refine (ps_aug (pos := pos) (pos' := p) hN h1 h2 he ip_sub h3).imp (key _ fun x y z e => ?_)
    unfold vAug at e
    split at e
    · rename_i h; cases h
    · cases e; exact ⟨_, _, rfl, rfl, rfl⟩
    · cases e
  | mul => exact (ps_aug (pos := pos) (pos' := p) hN h1 h2 he ip_add h3).imp (none_of fun x y => rfl)
  | fdiv => exact (ps_aug (pos := pos) (pos' := p) hN h1 h2 he ip_add h3).imp (none_of fun x y => rfl)
  | mod => exact (ps_aug (pos := pos) (pos' := p) hN h1 h2 he ip_add h3).imp (none_of fun x y => rfl)
  | pow => exact (ps_aug (pos := pos) (pos' := p) hN h1 h2 he ip_add h3).imp (none_of fun x y => rfl)
theorem run_tst {o : Out D} {F : Fr} {f g : Sto → OS} : (o.run F fun x S1 => match truth S1 x with
    | some true => f S1
    | some false => g S1
    | none => .bad) = (tst o).run F fun b S1 => if b then f S1 else g S1 := by
  cases o with
  | ok x S =>
    simp only [Out.run, tst, Out.bind]
    cases truth S x with
    | none => rfl
    | some b => cases b <;> rfl
  | exc x S => rfl
  | bad => rfl
theorem ss_cond {cc : CE} {a b : List CS} {ec : Expr} {ea eb : List Stmt} {pos : Pos} {C : Cxt} (hc : ST R W rs X ec (fun F S => tst (ev C rs cc F S))) (ha : SSs R W rs X ea (evSs C rs a)) (hb : SSs R W rs X eb (evSs C rs b)) : SS R W rs X (.If ec ea eb pos) (evS C rs (.cond cc a b)) := by
  refine (ps_if (pos := pos) hc ha hb).imp fun D' st H ⟨r, F, S, h, hF, hs⟩ => ?_
  simp only [evS, run_tst] at hs
  refine bindR h hF hs fun r1 S1 H1 t tv e1 h1 hF1 qt hs => ?_
  have qt : t = tv := qt
  subst qt
  cases t with
  | true => exact iteT ⟨r1, F, S1, h1, hF1, hs⟩
  | false => exact iteF ⟨r1, F, S1, h1, hF1, hs⟩
theorem later_refl (H : Hp) : Later R H R.hid := fun _ m => .inl m
theorem ss_loop {t : Tgt} {it : IT} {b : List CS} {tg iter : Expr} {eb : List Stmt} {pos : Pos} {C : Cxt} (ok : XOk R N c X) (hp : PassesOwn (model X.prog X.w) X.A X.env X.xe) (hi : SI R W rs X tg iter (evI C rs it)) (hg : chkTg N c t tg = true) (hb : SSs R W rs X eb (evSs C rs b)) (hs : ∀ x, foldedSetIterable iter X.env x = pure x) :
    SS R W rs X (.For tg iter eb [] pos) (evS C rs (.loop t it b)) := by
  refine (ps_for (pos := pos) hp ok.calm hi (pg_of ok hg) hb hs).imp fun D' st H ⟨r, F, S, h, hF, hs⟩ => ?_
  simp only [evS] at hs
  refine bindR h hF hs fun r1 S1 H1 src J e1 h1 hF1 srv hs => ?_
  generalize hf : (fun (d : D) (F2 : Fr) (S2 : Sto) => match bindT t d F2 with
      | some F3 => evSs C rs b F3 S2
      | none => OS.bad) = f at hs
  refine ⟨fun i m st' H' => ∃ r2 F2 S2, Ext r1 H1 r2 H' ∧ RS R rs r2 S2 H' ∧ RF R r2 H' F2 st' ∧ SatS R W rs r2 H' (turnsS f src m i F2 S2) D', ⟨src.len, r1, F, S1, .refl _ _, h1, hF1, hs⟩, ?_⟩
  rintro i m st' H' ⟨r2, F2, S2, x2, h2, hF2, hs2⟩
  have sv := srv R.hid r2 S2 H' i (later_refl H1) x2 h2
  cases m with
  | zero =>
    left
    unfold turnsS at hs2
    split at hs2
    · rename_i es
      exact ⟨sv.2 es, hs2.fin h2 hF2⟩
    · exact hs2.elim
  | succ m =>
    right
    simp only [turnsS] at hs2
    split at hs2
    · rename_i d es
      obtain ⟨sg, sy⟩ := sv.1 d es
      refine ⟨sg, fun st'' H'' => ∃ r2 F2 S2, Ext r1 H1 r2 H'' ∧ RS R rs r2 S2 H'' ∧ RF R r2 H'' F2 st'' ∧ SatS R W rs r2 H'' (turnsS f src m (i + 1) F2 S2) D', fun st'' H'' q => ⟨m, Nat.lt_succ_self _, q⟩, fun x H3 y => ?_⟩
      obtain ⟨x3, h3, q3⟩ := sy x H3 y
      have hF3 := hF2.ext x3
      have hs3 := SatS.shift x3 hs2
      rw [← hf] at hs3
      dsimp only at hs3
      cases eb : bindT t d F2 with
      | none => rw [eb] at hs3; exact hs3.elim
      | some F4 =>
        rw [eb] at hs3
        dsimp only at hs3
        rw [hf] at hs3
        have tok : TgOk R t (tgOf R t) := tg_ok t
        refine tok R.hid r2 H3 F2 F4 st' d x _ hF3 q3 eb fun st4 hF4 _ => ⟨r2, F4, S2, h3, hF4, ?_⟩
        have xx := x2.trans x3
        cases eo : evSs C rs _ F4 S2 with
        | nx F5 S5 => rw [eo] at hs3; exact fun r5 H5 st5 x5 h5 hF5 => ⟨r5, F5, S5, xx.trans x5, h5, hF5, SatS.shift x5 hs3⟩
        | cnt F5 S5 => rw [eo] at hs3; exact fun r5 H5 st5 x5 h5 hF5 => ⟨r5, F5, S5, xx.trans x5, h5, hF5, SatS.shift x5 hs3⟩
        | brk F5 S5 => rw [eo] at hs3; exact hs3
        | ret d S5 => rw [eo] at hs3; exact hs3
        | exc x F5 S5 => rw [eo] at hs3; exact hs3
        | bad => rw [eo] at hs3; exact hs3
    · exact hs2.elim
theorem ss_whl {cc : CE} {b : List CS} {ec : Expr} {eb : List Stmt} {pos : Pos} {C : Cxt} (hp : PassesOwn (model X.prog X.w) X.A X.env X.xe) (hc : ST R W rs X ec (fun F S => tst (ev C rs cc F S))) (hb : SSs R W rs X eb (evSs C rs b)) : SS R W rs X (.While ec eb [] pos) (evS C rs (.whl cc b)) := by
  refine (ps_while (pos := pos) hp hc hb).imp fun D' st H ⟨r, F, S, h, hF, hs⟩ => ?_
  simp only [evS] at hs
  refine ⟨fun m st H => ∃ r F S, RS R rs r S H ∧ RF R r H F st ∧ SatS R W rs r H (whlS (fun F S => tst (ev C rs cc F S)) (evSs C rs b) m F S) D', ⟨manyTurns, r, F, S, h, hF, hs⟩, ?_⟩
  rintro m st H ⟨r, F, S, h, hF, hs⟩
  cases m with
  | zero => exact hs.elim
  | succ m =>
    simp only [whlS] at hs
    refine bindR h hF hs fun r1 S1 H1 t tv e1 h1 hF1 qt hs => ?_
    have qt : t = tv := qt
    subst qt
    cases t with
    | false => exact iteF (hs.fin h1 hF1)
    | true =>
      refine iteT ⟨fun st H => ∃ r F S, RS R rs r S H ∧ RF R r H F st ∧ SatS R W rs r H (whlS (fun F S => tst (ev C rs cc F S)) (evSs C rs b) m F S) D', fun st' H' q => ⟨m, Nat.lt_succ_self _, q⟩, r1, F, S1, h1, hF1, ?_⟩
      simp only [if_true] at hs
      cases eo : evSs C rs b F S1 with
      | nx F5 S5 => rw [eo] at hs; exact fun r5 H5 st5 x5 h5 hF5 => ⟨r5, F5, S5, h5, hF5, SatS.shift x5 hs⟩
      | cnt F5 S5 => rw [eo] at hs; exact fun r5 H5 st5 x5 h5 hF5 => ⟨r5, F5, S5, h5, hF5, SatS.shift x5 hs⟩
      | brk F5 S5 => rw [eo] at hs; exact hs
      | ret d S5 => rw [eo] at hs; exact hs
      | exc x F5 S5 => rw [eo] at hs; exact hs
      | bad => rw [eo] at hs; exact hs
end
end OM
set_option Elab.async false
set_option linter.all false
set_option maxRecDepth 100000
set_option maxHeartbeats 1000000
/-! OmPar: a, b = x, y. -/
namespace OM
open PySem PySem.Spec PyProof.Rows L2
section
variable {R : RP} {W : WX} {rs : List Nat} {X : Cx} {N : List Str} {c : Scp}
def swPar (x y : Str) (px py : Pos) (a b : Expr) : Bool := (px.line == py.line) && !(x == y) && noStar a && noStar b && !([a, b].all (foldedForSure 8)) && !([a, b].all (constantsAlone 8))
theorem sw_par {x y : Str} {px py pt pt2 : Pos} {kt k2 : Nat} {a b : Expr} {env : Env} (hk : env.scope.kind = .function) (hx : env.scope.names.lookup x = some .local) (hy : env.scope.names.lookup y = some .local) (h : swPar x y px py a b = true) :
    swappedStores [.Tuple [.Name x px, .Name y py] kt pt] (.Tuple [a, b] k2 pt2) env = pure (some [x, y]) := by
  unfold swPar at h
  simp only [Bool.and_eq_true, Bool.not_eq_true'] at h
  obtain ⟨⟨⟨⟨⟨h1, h2⟩, h3⟩, h4⟩, h5⟩, h6⟩ := h
  have ky : env.kindOf y = some .local := hy
  have kx : env.kindOf x = some .local := hx
  have hb : env.blockKind = .function := by unfold Env.blockKind; rw [hk]; rfl
  have hl := eq_of_beq h1
  have hne : (x == y) = false := h2
  have hne2 : (y == x) = false := by rw [Bool.eq_false_iff] at hne ⊢; intro z; exact hne (by rw [eq_of_beq z]; exact beq_self_eq_true _)
  unfold swappedStores
  simp only [hb, kx, ky, h5, h6, List.length_cons, List.length_nil, List.filterMap_cons, List.filterMap_nil, List.head?_cons, Option.map_some, Option.getD_some, Expr.pos, hl, beq_self_eq_true, Bool.and_self, if_true]
  have e2 : ([x, y] : List Str).eraseDups = [x, y] := by
    rw [List.eraseDups_cons]
    simp [hne2, List.eraseDups_cons]
  simp [e2]
  rintro (z | z)
  · exfalso
    cases a <;> first | (cases h3; done) | cases z
  · exfalso
    cases b <;> first | (cases h4; done) | cases z
theorem ss_par {i j : Nat} {x y : Str} {as : List CE} {a b : Expr} {px py pt pt2 pos : Pos} {kt k2 : Nat} {C : Cxt} (ok : XOk R N c X) (hk : X.env.scope.kind = .function) (hx : isNm c.sc .local x = true) (hy : isNm c.sc .local y = true) (hi : N[i]? = some x) (hj : N[j]? = some y) (hij : i ≠ j)
    (h : swPar x y px py a b = true) (ha : SA R W rs X [a, b] (evL C rs as)) : SS R W rs X (.Assign [.Tuple [.Name x px, .Name y py] kt pt] (.Tuple [a, b] k2 pt2) pos) (evS C rs (.par [i, j] as)) := by
  have hx' : X.env.scope.names.lookup x = some .local := by rw [ok.sc]; exact isNm_iff hx
  have hy' : X.env.scope.names.lookup y = some .local := by rw [ok.sc]; exact isNm_iff hy
  refine (ps_par (pos := pos) ok.calm (by rw [ok.hN]; exact ok.nd) (by rw [ok.hN]; exact hi) (by rw [ok.hN]; exact hj) hij hx' hy' ha (sw_par hk hx' hy' h) rfl).imp fun D' st H ⟨r, F, S, h, hF, hs⟩ => ?_
  simp only [evS] at hs
  refine bindR h hF hs fun r1 S1 H1 xs vs e1 h1 hF1 qs hs => ?_
  split at hs
  · rename_i F2 eb
    cases qs with
    | nil => unfold setN at eb; cases eb
    | cons q1 t1 =>
      cases t1 with
      | nil => unfold setN setN at eb; cases eb
      | cons q2 t2 =>
        cases t2 with
        | nil =>
          unfold setN setN setN at eb
          cases eb
          exact ⟨_, _, rfl, hs.fin h1 ((hF1.set q1).set q2)⟩
        | cons _ _ => unfold setN setN setN at eb; cases eb
  · exact hs.elim
end
end OM
set_option Elab.async false
set_option linter.all false
set_option maxRecDepth 100000
set_option maxHeartbeats 1000000
/-! OmChk: a Bool check that a text's expression, statement is a given one of the small language; what it means. -/
namespace OM
open PySem PySem.Spec PyProof.Rows L2

/-! ### chains as tests -/
theorem chain_bl {o o' : CmpO} {a b d : CE} {C : Cxt} {rs : List Nat} {F : Fr} {S S' : Sto} {v : D} (e : ev C rs (.chain o o' a b d) F S = .ok v S') : ∃ k, v = .bl k := by
  simp only [ev] at e
  cases e1 : ev C rs a F S with
  | bad => rw [e1] at e; cases e
  | exc _ _ => rw [e1] at e; cases e
  | ok x S1 =>
    rw [e1] at e
    simp only [Out.bind] at e
    cases e2 : ev C rs b F S1 with
    | bad => rw [e2] at e; cases e
    | exc _ _ => rw [e2] at e; cases e
    | ok y S2 =>
      rw [e2] at e
      simp only at e
      cases e3 : vCmp o x y S2 with
      | bad => rw [e3] at e; cases e
      | exc _ _ => rw [e3] at e; cases e
      | ok t S3 =>
        rw [e3] at e
        simp only at e
        split at e
        · cases e4 : ev C rs d F S3 with
          | bad => rw [e4] at e; cases e
          | exc _ _ => rw [e4] at e; cases e
          | ok z S4 =>
            rw [e4] at e
            simp only at e
            obtain ⟨k, rfl, _⟩ := vCmp_bl e
            exact ⟨k, rfl⟩
        · cases e; exact ⟨_, rfl⟩
        · cases e
section
variable {R : RP} {W : WX} {rs : List Nat} {X : Cx} {N : List Str} {c : Scp}
theorem st_chain {o o' : CmpO} {a b d : CE} {ea eb ed : Expr} {pos : Pos} {C : Cxt} (ok : XOk R N c X) (ha : SE R W rs X ea (ev C rs a)) (hb : SE R W rs X eb (ev C rs b)) (hd : SE R W rs X ed (ev C rs d)) (ns : noSet ed = true) :
    ST R W rs X (.Compare ea [cmpOf o, cmpOf o'] [eb, ed] pos) (fun F S => tst (ev C rs (.chain o o' a b d) F S)) := by
  refine (pt_chain (pos := pos) (cmp_r ok.un o) (cmp_r ok.un o') ha hb hd (behind_of ns)).imp fun st H Q ⟨r, F, S, h, hF, hs⟩ => ?_
  have hs : Sat R W rs st r H eqB (tst (ev C rs (.chain o o' a b d) F S)) Q := hs
  have hs : Sat R W rs st r H (Rep R) (ev C rs (.chain o o' a b d) F S) (fun z H' => ∃ k, z = .bl k ∧ Q k H') := by
    cases e : ev C rs (.chain o o' a b d) F S with
    | bad => rw [e] at hs; exact hs.elim
    | exc x S1 => rw [e] at hs; exact hs
    | ok v S1 =>
      obtain ⟨k, rfl⟩ := chain_bl e
      rw [e] at hs
      intro r' H' v e' h' q
      cases q
      exact ⟨k, rfl, hs r' H' k e' h' rfl⟩
  show tChain _ _ _ _ _ st H _
  simp only [ev] at hs
  refine bindG h hF hs fun r1 S1 H1 x xv e1 h1 hF1 qx hs => bindG h1 hF1 hs fun r2 S2 H2 y yv e2 h2 hF2 qy hs => ?_
  rw [ok.K]
  refine cmp_v (W := W) (st := st) o h2 (qx.ext e2) qy ?_
  cases ec : vCmp o x y S2 with
  | bad => rw [ec] at hs; exact hs.elim
  | exc z S3 =>
    exfalso
    unfold vCmp at ec
    cases o <;> dsimp only at ec <;> (repeat' split at ec) <;> cases ec
  | ok t S3 =>
    obtain ⟨k, rfl, rfl⟩ := vCmp_bl ec
    rw [ec] at hs
    intro r3 H3 z e3 h3 qz
    cases qz
    refine ⟨k, rfl, ?_⟩
    have hF3 := hF2.ext e3
    have hs := Sat.shift e3 hs
    cases k with
    | true =>
      rw [if_pos rfl]
      refine bindG h3 hF3 hs fun r4 S4 H4 w wv e4 h4 hF4 qw hs => ?_
      exact cmp_v o' h4 ((qy.ext e3).ext e4) qw hs
    | false =>
      rw [if_neg Bool.false_ne_true]
      exact Sat.fin (a := D.bl false) hs h3 (.bl _)
end

/-! ### the check -/
def inScp (c : Scp) (scope : Scope) : Scp := ⟨relS scope c.sc, fun x => scope.names.lookup x == some .cell⟩
def chkTy (T : Sta) (c : Scp) : D → Expr → Bool
  | .ty k, .Name x _ => decide (k < 7) && decide (k ≠ 0) && decide (x = (tyN k : Str)) && chkGl c.sc x && decide (x ∈ T.bl)
  | _, _ => false
def chkBl (T : Sta) (c : Scp) (n : String) (x : Str) : Bool := decide (x = (n : Str)) && chkGl c.sc x && decide (x ∈ T.bl)
mutual
def chkE (T : Sta) (N : List Str) (c : Scp) : CE → Expr → Bool
  | .slot i, e => (match e with
    | .Name x _ => chkVar N c.sc i x
    | _ => false)
  | .cst d, e => cstOk d e || chkTy T c d e
  | .glo g, e => (match e with
    | .Name x _ => decide (nmAt T.gn g = x) && chkGl c.sc x
    | _ => false)
  | .bin o a b, e => (match e with
    | .BinOp ea op eb _ => decide (op = opOf o) && chkE T N c a ea && chkE T N c b eb
    | _ => false)
  | .neg a, e => (match e with
    | .UnaryOp .USub ea _ => chkE T N c a ea
    | _ => false)
  | .cmp o a b, e => (match e with
    | .Compare ea [op] [eb] _ => decide (op = cmpOf o) && noSet eb && chkE T N c a ea && chkE T N c b eb
    | _ => false)
  | .chain o o' a b d, e => (match e with
    | .Compare ea [op, op'] [eb, ed] _ => decide (op = cmpOf o) && decide (op' = cmpOf o') && noSet ed && chkE T N c a ea && chkE T N c b eb && chkE T N c d ed
    | _ => false)
  | .bop k es, e => (match e with
    | .BoolOp op xs _ => decide (op = bopOf k) && !xs.isEmpty && chkL T N c es xs
    | _ => false)
  | .not a, e => (match e with
    | .UnaryOp .Not ea _ => chkE T N c a ea
    | _ => false)
  | .ite cc a b, e => (match e with
    | .IfExp ec ea eb _ => chkE T N c cc ec && chkE T N c a ea && chkE T N c b eb
    | _ => false)
  | .call _ f as kn ka, e => (match e with
    | .Call (.Name x _) xs ks _ => (T.fd f).isSome && decide (nmAt T.gn f = x) && chkGl c.sc x && xs.all noStar && kwOk T.an kn ks && decide ((as.length, kn) ∈ T.shp f) && decide (as.length = xs.length) && decide (ka.length = kn.length) && chkL T N c as xs && chkK T N c ka ks
    | _ => false)
  | .bcall _ b as, e => (match e with
    | .Call (.Name x _) xs [] _ => chkBl T c (biN b) x && !xs.isEmpty && xs.all noStar && chkL T N c as xs
    | _ => false)
  | .isin a ts, e => (match e with
    | .Call (.Name x _) [ea, .Tuple xs _ _] [] _ => chkBl T c "isinstance" x && noStar ea && decide (xs.length ≠ 0) && decide (xs.length ≤ 100) && decide (ts.length = xs.length) && chkE T N c a ea && chkL T N c ts xs
    | .Call (.Name x _) [ea, et] [] _ => chkBl T c "isinstance" x && noStar ea && noStar et && chkE T N c a ea && chkL T N c ts [et]
    | _ => false)
  | .bmeth b o as, e => (match e with
    | .Call (.Attribute eo n apos) (ea :: xs) [] pos => decide (n = (bmN b : Str)) && noSuper eo && (apos.endLine == pos.line) && noStar ea && xs.all noStar && decide (xs.length < 20) && chkE T N c o eo && chkL T N c as (ea :: xs)
    | _ => false)
  | .meth _ _ _ _ _ _, _ => false
  | .attr _ _, _ => false
  | .idx a b, e => (match e with
    | .Subscript ea eb _ => noSlice eb && chkE T N c a ea && chkE T N c b eb
    | _ => false)
  | .sli a lo hi, e => (match e with
    | .Subscript ea (.Slice el eh none _) _ => chkE T N c a ea && chkO T N c lo el && chkO T N c hi eh
    | _ => false)
  | .tup es, e => (match e with
    | .Tuple xs _ _ => xs.all noStar && chkL T N c es xs
    | _ => false)
  | .lst _ es, e => (match e with
    | .List xs _ => xs.all noStar && chkL T N c es xs
    | _ => false)
  | .comp _ e gs, x => (match x with
    | .ListComp elt [⟨tg, iter, ifs, 0⟩] scope _ => blkC N c.sc scope ((ownOf gs).map fun i => (N.getD i ⟨#[]⟩, i)) && noSet iter && chkG T N c (inScp c scope) gs tg iter ifs && chkE T N (inScp c scope) e elt
    | _ => false)
def chkL (T : Sta) (N : List Str) (c : Scp) : List CE → List Expr → Bool
  | [], [] => true
  | a :: as, e :: es => chkE T N c a e && chkL T N c as es
  | _, _ => false
def chkK (T : Sta) (N : List Str) (c : Scp) : List CE → List Keyword → Bool
  | [], [] => true
  | a :: as, k :: ks => chkE T N c a k.value && chkK T N c as ks
  | _, _ => false
def chkO (T : Sta) (N : List Str) (c : Scp) : List CE → Option Expr → Bool
  | [], none => true
  | [a], some e => chkE T N c a e
  | _, _ => false
def chkG (T : Sta) (N : List Str) (c c' : Scp) : List Gen → Expr → Expr → List Expr → Bool
  | [.mk t it ifs], tg, iter, xs => chkTg N c' t tg && chkI T N c it iter tg && decide (xs.length ≤ 1) && chkL T N c' ifs xs
  | _, _, _, _ => false
def chkI (T : Sta) (N : List Str) (c : Scp) : IT → Expr → Expr → Bool
  | .ov a, e, _ => chkE T N c a e
  | .rng1 b, e, _ => (match e with
    | .Call (.Name x _) [eb] [] _ => chkBl T c "range" x && noStar eb && chkE T N c b eb
    | _ => false)
  | .rng a b, e, _ => (match e with
    | .Call (.Name x _) [ea, eb] [] _ => chkBl T c "range" x && noStar ea && noStar eb && chkE T N c a ea && chkE T N c b eb
    | _ => false)
  | .zip a b, e, tg => (match e with
    | .Call (.Name x _) [ea, eb] [] _ => !notTup tg && chkBl T c "zip" x && noStar ea && noStar eb && chkE T N c a ea && chkE T N c b eb
    | _ => false)
  | .enm a, e, tg => (match e with
    | .Call (.Name x _) [ea] [] _ => !notTup tg && chkBl T c "enumerate" x && noStar ea && chkE T N c a ea
    | _ => false)
end

/-! ### what it means -/
structure Ok2 (R : RP) (W : WX) (rs : List Nat) (X : Cx) (C : Cxt) (a : CE) (e : Expr) : Prop where
  se : SE R W rs X e (ev C rs a)
  st : ST R W rs X e (fun F S => tst (ev C rs a F S))
inductive Ok2s (R : RP) (W : WX) (rs : List Nat) (X : Cx) (C : Cxt) : List CE → List Expr → Prop where
  | nil : Ok2s R W rs X C [] []
  | cons {a : CE} {e : Expr} {as : List CE} {es : List Expr} : Ok2 R W rs X C a e → Ok2s R W rs X C as es → Ok2s R W rs X C (a :: as) (e :: es)
section
variable {R : RP} {W : WX} {rs : List Nat} {X : Cx} {C : Cxt} {N : List Str} {c : Scp}
theorem Ok2.plain {a : CE} {e : Expr} (ok : XOk R N c X) (h : SE R W rs X e (ev C rs a)) (p : plainTest e = true) : Ok2 R W rs X C a e := ⟨h, st_plain ok h p⟩
theorem Ok2s.sa : ∀ {as : List CE} {es : List Expr}, Ok2s R W rs X C as es → es.all noStar = true → SA R W rs X es (evL C rs as)
  | _, _, .nil, _ => sa_nil
  | _, _, .cons h t, s => by
    rw [List.all_cons, Bool.and_eq_true] at s
    exact sa_cons h.se (Ok2s.sa t s.2) s.1
theorem Ok2s.bop {k : Bool} {pos : Pos} (ok : XOk R N c X) : ∀ {as : List CE} {es : List Expr}, Ok2s R W rs X C as es → es.isEmpty = false → PE X (.BoolOp (bopOf k) es pos) (tG R W rs (Rep R) (evB C rs k as)) ∧ PW X (.BoolOp (bopOf k) es pos) (tG R W rs eqB fun F S => tst (evB C rs k as F S))
  | _, _, .nil, h => by cases h
  | _, _, .cons h .nil, _ => ⟨sb_one h.se, tb_one h.st⟩
  | _, _, .cons h (.cons h2 t), _ => by
    obtain ⟨i1, i2⟩ := Ok2s.bop (k := k) (pos := pos) ok (.cons h2 t) rfl
    exact ⟨sb_cons ok h.se i1, tb_cons h.st i2⟩
theorem Ok2s.len : ∀ {as : List CE} {es : List Expr}, Ok2s R W rs X C as es → as.length = es.length
  | _, _, .nil => rfl
  | _, _, .cons _ t => by rw [List.length_cons, List.length_cons, t.len]
end
theorem chkBl_iff {T : Sta} {c : Scp} {n : String} {x : Str} (h : chkBl T c n x = true) : x = (n : Str) ∧ chkGl c.sc x = true ∧ x ∈ T.bl := by
  unfold chkBl at h
  simp only [Bool.and_eq_true, decide_eq_true_eq] at h
  exact ⟨h.1.1, h.1.2, h.2⟩
theorem bm_pa : ∀ b : Bm, PlainAttrs (bmT b)
  | .join => PySem.F.plainAttrs_str
  | .append => PySem.F.plainAttrs_list
theorem bm_slot : ∀ b : Bm, Slot (bmT b) (bmN b) (bmId b)
  | .join => PySem.F.slot_str_join
  | .append => PySem.F.slot_list_append
theorem bm_hty : ∀ b : Bm, typeOf (.builtin (bmId b)) = pure (.type "method_descriptor")
  | .join => PySem.F.type_str_join
  | .append => PySem.F.type_list_append
theorem own_map {N : List Str} (is : List Nat) : (is.map fun i => (N.getD i ⟨#[]⟩, i)).map (·.2) = is := by
  induction is with
  | nil => rfl
  | cons i is ih => rw [List.map_cons, List.map_cons, ih]
theorem Wld.hid {R : RP} {T : Sta} {C : Cxt} {P : Program} {w : World} {K : PySem.W.Frag} {mg : Str → Option Value} {base : Heap} {A : Around} (hid : List Addr) (wd : Wld R T C P w K mg base A) : Wld (R.h hid) T C P w K mg base A :=
  ⟨wd.an, wd.call, wd.pars, wd.glob, wd.bl⟩
theorem XOk.blk {R : RP} {N : List Str} {c : Scp} {X : Cx} (ok : XOk R N c X) (hid : List Addr) (s : Shared) (H : Hp) (scope : Scope) (Ca : Addr) (cl : List (Str × Addr)) (fp : List Addr) : XOk (R.h hid) N (inScp c scope) (X.blk s H scope (compEnvC scope cl Ca X.env) fp) :=
  ⟨ok.hN, ok.nd, by show relS scope X.env.scope = relS scope c.sc; rw [ok.sc], rfl, ok.K, ok.calm, ok.un⟩
theorem pe_hid {R : RP} {rs : List Nat} {X : Cx} {e : Expr} {g : Fr → Sto → Out D} (h : ∀ hid, SE (R.h hid) W0 rs X e g) : PE X e (tH R rs Rep g) := ⟨fun pins s st H Q I ⟨hid, q⟩ => (h hid).run pins s st H Q I q⟩
theorem pts_hid {R : RP} {rs : List Nat} {X : Cx} {C : Cxt} {as : List CE} {es : List Expr} (h : ∀ hid, Ok2s (R.h hid) W0 rs X C as es) (hl : es.length ≤ 1) : PTs X es (tH R rs (fun _ => eqB) (evT C rs as)) := by
  match es, hl with
  | [], _ =>
    have e : as = [] := by cases h []; rfl
    subst e
    exact ⟨fun pins s st H Q I ⟨hid, r, F, S, h', hF, hs⟩ => pts_nil.run pins s st H Q I (by
      simp only [evT] at hs
      exact Sat.fin (x := true) hs h' rfl)⟩
  | [e], _ =>
    obtain ⟨a, rfl⟩ : ∃ a, as = [a] := by
      cases h [] with
      | cons h t => cases t; exact ⟨_, rfl⟩
    have pt : PT X e (fun st H Q => ∃ hid, tG (R.h hid) W0 rs eqB (fun F S => tst (ev C rs a F S)) st H Q) := ⟨fun pins s st H Q I ⟨hid, q⟩ => by
      cases h hid with
      | cons h t => exact h.st.run pins s st H Q I q⟩
    refine ⟨fun pins s st H Q I ⟨hid, r, F, S, h', hF, hs⟩ => (pts_one pt).run pins s st H Q I ⟨hid, r, F, S, h', hF, ?_⟩⟩
    have e : evT C rs [a] F S = tst (ev C rs a F S) := by
      simp only [evT, tst]
      congr 1
      funext x S1
      cases truth S1 x with
      | none => rfl
      | some b => cases b <;> rfl
    rw [e] at hs
    exact hs
theorem takesF {X : Cx} : Takes X W0 := fun _ _ x => by
  obtain ⟨_, _, _, _, _, _, _, _, _, _, _, _, _, _, _, _, f⟩ := x
  exact f.elim
theorem ok_ty {T : Sta} {N : List Str} {c : Scp} {d : D} {e : Expr} {R : RP} {W : WX} {rs : List Nat} {X : Cx} {C : Cxt} (ok : XOk R N c X) (wd : WldX R T C X) (h : chkTy T c d e = true) : Ok2 R W rs X C (.cst d) e := by
  unfold chkTy at h
  split at h
  · simp only [Bool.and_eq_true, decide_eq_true_eq] at h
    obtain ⟨⟨⟨⟨h1, h2⟩, h3⟩, h4⟩, h5⟩ := h
    exact .plain ok (se_ty ok wd h1 h2 h3 h4 h5) rfl
  · cases h
theorem cst_plain {d : D} {e : Expr} (h : cstOk d e = true) : plainTest e = true := by
  unfold cstOk at h
  split at h <;> first | rfl | cases h
mutual
theorem chkE_ok {T : Sta} {N : List Str} : ∀ (a : CE) {c : Scp} {e : Expr}, chkE T N c a e = true → ∀ {R : RP} {W : WX} {rs : List Nat} {X : Cx} {C : Cxt}, XOk R N c X → WldX R T C X → Takes X W → Ok2 R W rs X C a e
  | .slot i, c, e, h, R, W, rs, X, C, ok, wd, tk => by
    unfold chkE at h
    split at h
    · exact .plain ok (se_slot ok h) rfl
    · cases h
  | .cst d, c, e, h, R, W, rs, X, C, ok, wd, tk => by
    unfold chkE at h
    rw [Bool.or_eq_true] at h
    rcases h with h | h
    · exact .plain ok (se_cst h) (cst_plain h)
    · exact ok_ty ok wd h
  | .glo g, c, e, h, R, W, rs, X, C, ok, wd, tk => by
    unfold chkE at h
    split at h
    · rw [Bool.and_eq_true, decide_eq_true_eq] at h
      exact .plain ok (se_glo ok wd h.1 h.2) rfl
    · cases h
  | .bin o a b, c, e, h, R, W, rs, X, C, ok, wd, tk => by
    unfold chkE at h
    split at h
    · simp only [Bool.and_eq_true, decide_eq_true_eq] at h
      obtain ⟨⟨rfl, h2⟩, h3⟩ := h
      exact .plain ok (se_bin ok (chkE_ok a h2 ok wd tk).se (chkE_ok b h3 ok wd tk).se) rfl
    · cases h
  | .neg a, c, e, h, R, W, rs, X, C, ok, wd, tk => by
    unfold chkE at h
    split at h
    · exact .plain ok (se_neg ok (chkE_ok a h ok wd tk).se) rfl
    · cases h
  | .cmp o a b, c, e, h, R, W, rs, X, C, ok, wd, tk => by
    unfold chkE at h
    split at h
    · simp only [Bool.and_eq_true, decide_eq_true_eq] at h
      obtain ⟨⟨⟨rfl, h2⟩, h3⟩, h4⟩ := h
      have ia := chkE_ok (T := T) (N := N) a h3 (rs := rs) ok wd tk
      have ib := chkE_ok (T := T) (N := N) b h4 (rs := rs) ok wd tk
      exact ⟨se_cmp ok ia.se ib.se h2, st_cmp ok ia.se ib.se h2⟩
    · cases h
  | .chain o o' a b d, c, e, h, R, W, rs, X, C, ok, wd, tk => by
    unfold chkE at h
    split at h
    · simp only [Bool.and_eq_true, decide_eq_true_eq] at h
      obtain ⟨⟨⟨⟨⟨rfl, rfl⟩, h2⟩, h3⟩, h4⟩, h5⟩ := h
      have ia := chkE_ok (T := T) (N := N) a h3 (rs := rs) ok wd tk
      have ib := chkE_ok (T := T) (N := N) b h4 (rs := rs) ok wd tk
      have id := chkE_ok (T := T) (N := N) d h5 (rs := rs) ok wd tk
      exact ⟨se_chain ok ia.se ib.se id.se h2, st_chain ok ia.se ib.se id.se h2⟩
    · cases h
  | .bop k es, c, e, h, R, W, rs, X, C, ok, wd, tk => by
    unfold chkE at h
    split at h
    · simp only [Bool.and_eq_true, decide_eq_true_eq, Bool.not_eq_true'] at h
      obtain ⟨⟨rfl, h2⟩, h3⟩ := h
      have i := chkL_ok (T := T) (N := N) es h3 (rs := rs) ok wd tk
      obtain ⟨i1, i2⟩ := i.bop (k := k) ok h2
      refine ⟨i1.imp fun st H Q ⟨r, F, S, h, hF, hs⟩ => ⟨r, F, S, h, hF, ?_⟩, (i2.pt).imp fun st H Q ⟨r, F, S, h, hF, hs⟩ => ⟨r, F, S, h, hF, ?_⟩⟩
      · simpa only [ev] using hs
      · simpa only [ev] using hs
    · cases h
  | .not a, c, e, h, R, W, rs, X, C, ok, wd, tk => by
    unfold chkE at h
    split at h
    · have ia := chkE_ok (T := T) (N := N) a h (rs := rs) ok wd tk
      exact ⟨se_not ok ia.se, st_not ok ia.st⟩
    · cases h
  | .ite cc a b, c, e, h, R, W, rs, X, C, ok, wd, tk => by
    unfold chkE at h
    split at h
    · simp only [Bool.and_eq_true] at h
      obtain ⟨⟨h1, h2⟩, h3⟩ := h
      have ic := chkE_ok (T := T) (N := N) cc h1 (rs := rs) ok wd tk
      have ia := chkE_ok (T := T) (N := N) a h2 (rs := rs) ok wd tk
      have ib := chkE_ok (T := T) (N := N) b h3 (rs := rs) ok wd tk
      exact ⟨se_ite ic.st ia.se ib.se, st_ite ic.st ia.st ib.st⟩
    · cases h
  | .call kp f as kn ka, c, e, h, R, W, rs, X, C, ok, wd, tk => by
    unfold chkE at h
    split at h
    · simp only [Bool.and_eq_true, decide_eq_true_eq] at h
      obtain ⟨⟨⟨⟨⟨⟨⟨⟨⟨h1, h2⟩, h3⟩, h4⟩, h5⟩, h6⟩, h7⟩, h8⟩, h9⟩, h10⟩ := h
      obtain ⟨F, hf⟩ := Option.isSome_iff_exists.mp h1
      have ik : SK R W rs X _ (evL C rs ka) := chkK_ok (T := T) (N := N) ka h10 (rs := rs) ok wd tk
      have ia := chkL_ok (T := T) (N := N) as h9 (rs := rs) ok wd tk
      refine .plain ok ?_ rfl
      cases ia with
      | nil => exact se_call0 ok wd tk hf h2 h3 ik h5 h6 h8
      | cons q t =>
        exact se_call ok wd tk hf h2 h3 (Ok2s.sa (.cons q t) h4) ik h4 h5 h6 h7 h8
    · cases h
  | .bcall mu b as, c, e, h, R, W, rs, X, C, ok, wd, tk => by
    unfold chkE at h
    split at h
    · simp only [Bool.and_eq_true, Bool.not_eq_true'] at h
      obtain ⟨⟨⟨h1, h2⟩, h3⟩, h4⟩ := h
      obtain ⟨k1, k2, k3⟩ := chkBl_iff h1
      have ia := chkL_ok (T := T) (N := N) as h4 (rs := rs) ok wd tk
      refine .plain ok ?_ rfl
      cases ia with
      | nil => cases h2
      | cons q t =>
        have h3' := h3
        rw [List.all_cons, Bool.and_eq_true] at h3'
        exact se_bcall ok wd (Ok2s.sa (.cons q t) h3) k1 k2 k3 h3'.1 h3'.2
    · cases h
  | .isin a ts, c, e, h, R, W, rs, X, C, ok, wd, tk => by
    unfold chkE at h
    split at h
    · simp only [Bool.and_eq_true, decide_eq_true_eq] at h
      obtain ⟨⟨⟨⟨⟨⟨h1, h2⟩, h3⟩, h4⟩, h5⟩, h6⟩, h7⟩ := h
      obtain ⟨k1, k2, k3⟩ := chkBl_iff h1
      have ia := chkE_ok (T := T) (N := N) a h6 (rs := rs) ok wd tk
      have it := chkL_ok (T := T) (N := N) ts h7 (rs := rs) ok wd tk
      have hst : ∀ {as : List CE} {es : List Expr}, chkL T N c as es = true → es.all noStar = true := by
        intro as
        induction as with
        | nil => intro es h; cases es with
          | nil => rfl
          | cons _ _ => unfold chkL at h; cases h
        | cons a as ih => intro es h; cases es with
          | nil => unfold chkL at h; cases h
          | cons e es =>
            unfold chkL at h
            rw [Bool.and_eq_true] at h
            rw [List.all_cons, ih h.2, Bool.and_true]
            have h1 := h.1
            cases e with
            | Starred v p => cases a <;> simp [chkE, cstOk, chkTy] at h1
            | _ => rfl
      exact .plain ok (se_isinT ok wd ia.se (it.sa (hst h7)) k1 k2 k3 h2 h3 h4 h5) rfl
    · simp only [Bool.and_eq_true] at h
      obtain ⟨⟨⟨⟨h1, h2⟩, h3⟩, h4⟩, h5⟩ := h
      obtain ⟨k1, k2, k3⟩ := chkBl_iff h1
      have ia := chkE_ok (T := T) (N := N) a h4 (rs := rs) ok wd tk
      have it := chkL_ok (T := T) (N := N) ts h5 (rs := rs) ok wd tk
      cases it with
      | cons q t => cases t; exact .plain ok (se_isin1 ok wd ia.se q.se k1 k2 k3 h2 h3) rfl
    · cases h
  | .bmeth b o as, c, e, h, R, W, rs, X, C, ok, wd, tk => by
    unfold chkE at h
    split at h
    · simp only [Bool.and_eq_true, decide_eq_true_eq] at h
      obtain ⟨⟨⟨⟨⟨⟨⟨h1, h2⟩, h3⟩, h4⟩, h5⟩, h6⟩, h7⟩, h8⟩ := h
      subst h1
      have io := chkE_ok (T := T) (N := N) o h7 (rs := rs) ok wd tk
      have ia := chkL_ok (T := T) (N := N) as h8 (rs := rs) ok wd tk
      exact .plain ok (se_bmeth ok io.se (ia.sa (by rw [List.all_cons, h4, h5]; rfl)) h2 h3 h4 h5 h6 (bm_pa b) (bm_slot b) (bm_hty b)) rfl
    · cases h
  | .meth _ _ _ _ _ _, c, e, h, R, W, rs, X, C, ok, wd, tk => by unfold chkE at h; cases h
  | .attr _ _, c, e, h, R, W, rs, X, C, ok, wd, tk => by unfold chkE at h; cases h
  | .idx a b, c, e, h, R, W, rs, X, C, ok, wd, tk => by
    unfold chkE at h
    split at h
    · simp only [Bool.and_eq_true] at h
      obtain ⟨⟨h1, h2⟩, h3⟩ := h
      exact .plain ok (se_idx ok (chkE_ok a h2 ok wd tk).se (chkE_ok b h3 ok wd tk).se h1) rfl
    · cases h
  | .sli a lo hi, c, e, h, R, W, rs, X, C, ok, wd, tk => by
    unfold chkE at h
    split at h
    · simp only [Bool.and_eq_true] at h
      obtain ⟨⟨h1, h2⟩, h3⟩ := h
      exact .plain ok (se_sli ok (chkE_ok a h1 ok wd tk).se (chkO_ok lo h2 ok wd tk) (chkO_ok hi h3 ok wd tk)) rfl
    · cases h
  | .tup es, c, e, h, R, W, rs, X, C, ok, wd, tk => by
    unfold chkE at h
    split at h
    · simp only [Bool.and_eq_true] at h
      exact .plain ok (se_tup ((chkL_ok es h.2 ok wd tk).sa h.1)) rfl
    · cases h
  | .lst mu es, c, e, h, R, W, rs, X, C, ok, wd, tk => by
    unfold chkE at h
    split at h
    · simp only [Bool.and_eq_true] at h
      exact .plain ok (se_lst ((chkL_ok es h.2 ok wd tk).sa h.1)) rfl
    · cases h
  | .comp mu e gs, c, x, h, R, W, rs, X, C, ok, wd, tk => by
    unfold chkE at h
    split at h
    · rename_i elt tg iter ifs scope pos
      simp only [Bool.and_eq_true] at h
      obtain ⟨⟨⟨h1, h2⟩, h3⟩, h4⟩ := h
      have bo := blkOk_by h1
      obtain ⟨t, it, ifc, rfl, hg, hi, hl, hif⟩ := chkG_ok (T := T) (N := N) gs h3
      simp only [ownOf, List.append_nil] at bo
      refine .plain ok (se_comp1 (g := tgOf R t) ok.calm (by rw [ok.hN]; exact ok.nd) (hi ok wd tk) (by rw [ok.hN, ok.sc]; exact bo) (own_map _) (fun s H Ca cl fp => ?_) (tg_ok t) (fun s H Ca cl fp => ?_) (fun s H Ca cl fp => ?_) (folded_of h2)) rfl
      · exact pg_of (ok.blk R.hid s H scope Ca cl fp) hg
      · exact pts_hid (fun hid => hif (ok.blk hid s H scope Ca cl fp) (wd.hid hid) takesF) hl
      · exact pe_hid fun hid => (chkE_ok e h4 (ok.blk hid s H scope Ca cl fp) (wd.hid hid) takesF).se
    · cases h
theorem chkL_ok {T : Sta} {N : List Str} : ∀ (as : List CE) {c : Scp} {es : List Expr}, chkL T N c as es = true → ∀ {R : RP} {W : WX} {rs : List Nat} {X : Cx} {C : Cxt}, XOk R N c X → WldX R T C X → Takes X W → Ok2s R W rs X C as es
  | [], c, [], _, _, _, _, _, _, _, _, _ => .nil
  | [], c, _ :: _, h, _, _, _, _, _, _, _, _ => by unfold chkL at h; cases h
  | _ :: _, c, [], h, _, _, _, _, _, _, _, _ => by unfold chkL at h; cases h
  | a :: as, c, e :: es, h, R, W, rs, X, C, ok, wd, tk => by
    unfold chkL at h
    rw [Bool.and_eq_true] at h
    exact .cons (chkE_ok a h.1 ok wd tk) (chkL_ok as h.2 ok wd tk)
theorem chkK_ok {T : Sta} {N : List Str} : ∀ (as : List CE) {c : Scp} {ks : List Keyword}, chkK T N c as ks = true → ∀ {R : RP} {W : WX} {rs : List Nat} {X : Cx} {C : Cxt}, XOk R N c X → WldX R T C X → Takes X W → SK R W rs X ks (evL C rs as)
  | [], c, [], _, _, _, _, _, _, _, _, _ => sk_nil
  | [], c, _ :: _, h, _, _, _, _, _, _, _, _ => by unfold chkK at h; cases h
  | _ :: _, c, [], h, _, _, _, _, _, _, _, _ => by unfold chkK at h; cases h
  | a :: as, c, ⟨nm, v, kp⟩ :: ks, h, R, W, rs, X, C, ok, wd, tk => by
    unfold chkK at h
    rw [Bool.and_eq_true] at h
    exact sk_cons (chkE_ok a h.1 ok wd tk).se (chkK_ok as h.2 ok wd tk)
theorem chkO_ok {T : Sta} {N : List Str} : ∀ (as : List CE) {c : Scp} {e : Option Expr}, chkO T N c as e = true → ∀ {R : RP} {W : WX} {rs : List Nat} {X : Cx} {C : Cxt}, XOk R N c X → WldX R T C X → Takes X W → SO R W rs X e (evO C rs as)
  | [], c, none, _, _, _, _, _, _, _, _, _ => so_none
  | [], c, some _, h, _, _, _, _, _, _, _, _ => by unfold chkO at h; cases h
  | a :: as, c, none, h, _, _, _, _, _, _, _, _ => by unfold chkO at h; cases as <;> cases h
  | a :: as, c, some e, h, R, W, rs, X, C, ok, wd, tk => by
    cases as with
    | nil =>
      unfold chkO at h
      exact so_some (chkE_ok a h ok wd tk).se
    | cons _ _ => unfold chkO at h; cases h
theorem chkG_ok {T : Sta} {N : List Str} : ∀ (gs : List Gen) {c c' : Scp} {tg iter : Expr} {xs : List Expr}, chkG T N c c' gs tg iter xs = true → ∃ t it ifs, gs = [.mk t it ifs] ∧ chkTg N c' t tg = true ∧
    (∀ {R : RP} {W : WX} {rs : List Nat} {X : Cx} {C : Cxt}, XOk R N c X → WldX R T C X → Takes X W → SI R W rs X tg iter (evI C rs it)) ∧ xs.length ≤ 1 ∧
    (∀ {R : RP} {W : WX} {rs : List Nat} {X : Cx} {C : Cxt}, XOk R N c' X → WldX R T C X → Takes X W → Ok2s R W rs X C ifs xs)
  | [], c, c', tg, iter, xs, h => by unfold chkG at h; cases h
  | .mk t it ifs :: gs, c, c', tg, iter, xs, h => by
    cases gs with
    | nil =>
      unfold chkG at h
      simp only [Bool.and_eq_true, decide_eq_true_eq] at h
      obtain ⟨⟨⟨h1, h2⟩, h3⟩, h4⟩ := h
      exact ⟨t, it, ifs, rfl, h1, chkI_ok it h2, h3, fun ok wd tk => chkL_ok ifs h4 ok wd tk⟩
    | cons _ _ => unfold chkG at h; cases h
theorem chkI_ok {T : Sta} {N : List Str} : ∀ (it : IT) {c : Scp} {e tg : Expr}, chkI T N c it e tg = true → ∀ {R : RP} {W : WX} {rs : List Nat} {X : Cx} {C : Cxt}, XOk R N c X → WldX R T C X → Takes X W → SI R W rs X tg e (evI C rs it)
  | .ov a, c, e, tg, h, R, W, rs, X, C, ok, wd, tk => by
    unfold chkI at h
    exact si_ov ok (chkE_ok a h ok wd tk).se
  | .rng1 b, c, e, tg, h, R, W, rs, X, C, ok, wd, tk => by
    unfold chkI at h
    split at h
    · simp only [Bool.and_eq_true] at h
      obtain ⟨⟨h1, h2⟩, h3⟩ := h
      obtain ⟨k1, k2, k3⟩ := chkBl_iff h1
      exact si_rng1 ok wd (chkE_ok b h3 ok wd tk).se k1 k2 k3 h2
    · cases h
  | .rng a b, c, e, tg, h, R, W, rs, X, C, ok, wd, tk => by
    unfold chkI at h
    split at h
    · simp only [Bool.and_eq_true] at h
      obtain ⟨⟨⟨⟨h1, h2⟩, h3⟩, h4⟩, h5⟩ := h
      obtain ⟨k1, k2, k3⟩ := chkBl_iff h1
      exact si_rng ok wd (chkE_ok a h4 ok wd tk).se (chkE_ok b h5 ok wd tk).se k1 k2 k3 h2 h3
    · cases h
  | .zip a b, c, e, tg, h, R, W, rs, X, C, ok, wd, tk => by
    unfold chkI at h
    split at h
    · simp only [Bool.and_eq_true, Bool.not_eq_true'] at h
      obtain ⟨⟨⟨⟨⟨h0, h1⟩, h2⟩, h3⟩, h4⟩, h5⟩ := h
      obtain ⟨k1, k2, k3⟩ := chkBl_iff h1
      cases tg with
      | Tuple _ _ _ => exact si_zip ok wd (chkE_ok a h4 ok wd tk).se (chkE_ok b h5 ok wd tk).se k1 k2 k3 h2 h3
      | _ => cases h0
    · cases h
  | .enm a, c, e, tg, h, R, W, rs, X, C, ok, wd, tk => by
    unfold chkI at h
    split at h
    · simp only [Bool.and_eq_true, Bool.not_eq_true'] at h
      obtain ⟨⟨⟨h0, h1⟩, h2⟩, h3⟩ := h
      obtain ⟨k1, k2, k3⟩ := chkBl_iff h1
      cases tg with
      | Tuple _ _ _ => exact si_enm ok wd (chkE_ok a h3 ok wd tk).se k1 k2 k3 h2
      | _ => cases h0
    · cases h
end
end OM
set_option Elab.async false
set_option linter.all false
set_option maxRecDepth 100000
set_option maxHeartbeats 1000000
/-! OmChkS: the check of statements. -/
namespace OM
open PySem PySem.Spec PyProof.Rows L2

/-- the name of a comprehension is stored while its block stands -/
def swapC (c : Scp) (x : Str) (p : Pos) : Expr → Bool
  | .ListComp _ _ scope pos => isNm c.sc .local x && (p.line == pos.line) && !(scope.names.any fun (n, k) => n == x && (k == .local || k == .cell))
  | _ => false
def dirC (c : Scp) (x : Str) (e : Expr) : Bool := notComp e || isNm c.sc .cell x
def isAS : BinO → Bool
  | .add => true
  | .sub => true
  | _ => false
mutual
def chkS (T : Sta) (N : List Str) (c : Scp) : CS → Stmt → Bool
  | .exp a, s => (match s with
    | .Expr e _ => notComp e && chkE T N c a e
    | _ => false)
  | .ret a, s => (match s with
    | .Return (some e) _ => chkE T N c a e
    | _ => false)
  | .retN, s => (match s with
    | .Return none _ => true
    | _ => false)
  | .set i a, s => (match s with
    | .Assign [.Name x p] e _ => chkSt N c i x && chkE T N c a e && (dirC c x e || swapC c x p e)
    | _ => false)
  | .unp is a, s => (match s with
    | .Assign [.Tuple es _ _] e _ => chkNs N c is es && notTup e && chkE T N c a e
    | _ => false)
  | .par is as, s => (match s with
    | .Assign [.Tuple [.Name x px, .Name y py] _ _] (.Tuple [a, b] _ _) _ => (match is with
      | [i, j] => isNm c.sc .local x && isNm c.sc .local y && decide (N[i]? = some x) && decide (N[j]? = some y) && decide (i ≠ j) && swPar x y px py a b && chkL T N c as [a, b]
      | _ => false)
    | _ => false)
  | .sub o i a, s => (match s with
    | .Assign [.Subscript eo ei _] e _ => noSlice ei && chkE T N c o eo && chkE T N c i ei && chkE T N c a e
    | _ => false)
  | .fld _ _ _, _ => false
  | .aug i o a, s => (match s with
    | .AugAssign (.Name x _) op e _ => isAS o && decide (op = augOf o) && chkSt N c i x && chkE T N c a e
    | _ => false)
  | .cond cc a b, s => (match s with
    | .If e ea eb _ => chkE T N c cc e && chkSs T N c a ea && chkSs T N c b eb
    | _ => false)
  | .loop t it b, s => (match s with
    | .For tg iter eb [] _ => chkTg N c t tg && noSet iter && chkI T N c it iter tg && chkSs T N c b eb
    | _ => false)
  | .whl cc b, s => (match s with
    | .While e eb [] _ => chkE T N c cc e && chkSs T N c b eb
    | _ => false)
  | .pas, s => (match s with
    | .Pass _ => true
    | .Expr (.Constant (.str _) _ _) _ => true
    | _ => false)
  | .brk, s => (match s with
    | .Break _ => true
    | _ => false)
  | .cnt, s => (match s with
    | .Continue _ => true
    | _ => false)
def chkSs (T : Sta) (N : List Str) (c : Scp) : List CS → List Stmt → Bool
  | [], [] => true
  | a :: as, e :: es => chkS T N c a e && chkSs T N c as es
  | _, _ => false
end
structure XS (R : RP) (N : List Str) (c : Scp) (X : Cx) extends XOk R N c X where
  ps : PassesOwn (model X.prog X.w) X.A X.env X.xe
  kind : c.sc.kind = .function
theorem sw_cell {e : Expr} {x : Str} {p : Pos} {l : Nat} {env : Env} (hk : env.scope.names.lookup x = some .cell) : swapsWith e (some (.Name x p)) l env = pure false := by
  have ky : env.kindOf x = some .cell := hk
  cases e <;> first
    | rfl
    | (unfold swapsWith; simp only [ky, show (some NameKind.cell == some NameKind.local) = false from rfl, Bool.and_false, Bool.false_and])
mutual
theorem chkS_ok {T : Sta} {N : List Str} : ∀ (a : CS) {c : Scp} {s : Stmt}, chkS T N c a s = true → ∀ {R : RP} {W : WX} {rs : List Nat} {X : Cx} {C : Cxt}, XS R N c X → WldX R T C X → Takes X W → SS R W rs X s (evS C rs a)
  | .exp a, c, s, h, R, W, rs, X, C, ok, wd, tk => by
    unfold chkS at h
    split at h
    · rw [Bool.and_eq_true] at h
      exact ss_exp (chkE_ok a h.2 ok.toXOk wd tk).se h.1
    · cases h
  | .ret a, c, s, h, R, W, rs, X, C, ok, wd, tk => by
    unfold chkS at h
    split at h
    · exact ss_ret (chkE_ok a h ok.toXOk wd tk).se
    · cases h
  | .retN, c, s, h, R, W, rs, X, C, ok, wd, tk => by
    unfold chkS at h
    split at h
    · exact ss_retN
    · cases h
  | .set i a, c, s, h, R, W, rs, X, C, ok, wd, tk => by
    unfold chkS at h
    split at h
    · rename_i x p e pos
      simp only [Bool.and_eq_true, Bool.or_eq_true] at h
      obtain ⟨⟨h1, h2⟩, h3⟩ := h
      rcases h3 with h3 | h3
      · refine ss_set ok.toXOk (chkE_ok a h2 ok.toXOk wd tk).se h1 ?_
        unfold dirC at h3
        rw [Bool.or_eq_true] at h3
        rcases h3 with h3 | h3
        · exact sw_no h3
        · exact sw_cell (by rw [ok.sc]; exact isNm_iff h3)
      · unfold swapC at h3
        split at h3
        · rename_i elt gens scope cpos
          cases a with
          | comp mu e gs =>
            unfold chkE at h2
            split at h2
            · rename_i elt tg iter ifs scope pos e0
              cases e0
              simp only [Bool.and_eq_true] at h2
              obtain ⟨⟨⟨k1, k2⟩, k3⟩, k4⟩ := h2
              have bo := blkOk_by k1
              obtain ⟨t, it, ifc, rfl, hg, hi, hl, hif⟩ := chkG_ok (T := T) (N := N) gs k3
              simp only [ownOf, List.append_nil] at bo
              simp only [Bool.and_eq_true, Bool.not_eq_true'] at h3
              obtain ⟨⟨m1, m2⟩, m3⟩ := h3
              unfold chkSt at h1
              simp only [Bool.and_eq_true, decide_eq_true_eq] at h1
              refine ss_setC (g := tgOf R t) ok.toXOk (hi ok.toXOk wd tk) (by rw [ok.hN, ok.sc]; exact bo) (own_map _) (fun s H Ca cl fp => ?_) (tg_ok t) (fun s H Ca cl fp => ?_) (fun s H Ca cl fp => ?_) (folded_of k2) h1.1 m1 (by rw [ok.sc]; exact ok.kind) m2 m3
              · exact pg_of (ok.toXOk.blk R.hid s H scope Ca cl fp) hg
              · exact pts_hid (fun hid => hif (ok.toXOk.blk hid s H scope Ca cl fp) (wd.hid hid) takesF) hl
              · exact pe_hid fun hid => (chkE_ok e k4 (ok.toXOk.blk hid s H scope Ca cl fp) (wd.hid hid) takesF).se
            · cases h2
          | _ => simp [chkE, cstOk, chkTy] at h2
        · cases h3
    · cases h
  | .unp is a, c, s, h, R, W, rs, X, C, ok, wd, tk => by
    unfold chkS at h
    split at h
    · simp only [Bool.and_eq_true] at h
      obtain ⟨⟨h1, h2⟩, h3⟩ := h
      exact ss_unp ok.toXOk (chkE_ok a h3 ok.toXOk wd tk).se h1 (ss_no (by rw [h2, Bool.or_true]) (by intro _ _ z; cases z))
    · cases h
  | .par is as, c, s, h, R, W, rs, X, C, ok, wd, tk => by
    unfold chkS at h
    split at h
    · split at h
      · simp only [Bool.and_eq_true, decide_eq_true_eq] at h
        obtain ⟨⟨⟨⟨⟨⟨h1, h2⟩, h3⟩, h4⟩, h5⟩, h6⟩, h7⟩ := h
        have h6' := h6
        unfold swPar at h6'
        simp only [Bool.and_eq_true] at h6'
        exact ss_par ok.toXOk (by rw [ok.sc]; exact ok.kind) h1 h2 h3 h4 h5 h6 ((chkL_ok as h7 ok.toXOk wd tk).sa (by rw [List.all_cons, List.all_cons, h6'.1.1.1.2, h6'.1.1.2]; rfl))
      · cases h
    · cases h
  | .sub o i a, c, s, h, R, W, rs, X, C, ok, wd, tk => by
    unfold chkS at h
    split at h
    · simp only [Bool.and_eq_true] at h
      obtain ⟨⟨⟨h1, h2⟩, h3⟩, h4⟩ := h
      exact ss_sub ok.toXOk (chkE_ok o h2 ok.toXOk wd tk).se (chkE_ok i h3 ok.toXOk wd tk).se (chkE_ok a h4 ok.toXOk wd tk).se h1
    · cases h
  | .fld _ _ _, c, s, h, R, W, rs, X, C, ok, wd, tk => by unfold chkS at h; cases h
  | .aug i o a, c, s, h, R, W, rs, X, C, ok, wd, tk => by
    unfold chkS at h
    split at h
    · simp only [Bool.and_eq_true, decide_eq_true_eq] at h
      obtain ⟨⟨⟨h1, rfl⟩, h3⟩, h4⟩ := h
      obtain ⟨_, k2, _⟩ := st_of ok.toXOk h3
      exact ss_aug ok.toXOk (chkE_ok a h4 ok.toXOk wd tk).se h3 (k2.elim .inl fun z => .inr (.inl z))
    · cases h
  | .cond cc a b, c, s, h, R, W, rs, X, C, ok, wd, tk => by
    unfold chkS at h
    split at h
    · simp only [Bool.and_eq_true] at h
      obtain ⟨⟨h1, h2⟩, h3⟩ := h
      exact ss_cond (chkE_ok cc h1 ok.toXOk wd tk).st (chkSs_ok a h2 ok wd tk) (chkSs_ok b h3 ok wd tk)
    · cases h
  | .loop t it b, c, s, h, R, W, rs, X, C, ok, wd, tk => by
    unfold chkS at h
    split at h
    · simp only [Bool.and_eq_true] at h
      obtain ⟨⟨⟨h1, h2⟩, h3⟩, h4⟩ := h
      exact ss_loop ok.toXOk ok.ps (chkI_ok it h3 ok.toXOk wd tk) h1 (chkSs_ok b h4 ok wd tk) (folded_of h2)
    · cases h
  | .whl cc b, c, s, h, R, W, rs, X, C, ok, wd, tk => by
    unfold chkS at h
    split at h
    · simp only [Bool.and_eq_true] at h
      exact ss_whl ok.ps (chkE_ok cc h.1 ok.toXOk wd tk).st (chkSs_ok b h.2 ok wd tk)
    · cases h
  | .pas, c, s, h, R, W, rs, X, C, ok, wd, tk => by
    unfold chkS at h
    split at h
    · exact ss_pas
    · exact ss_doc
    · cases h
  | .brk, c, s, h, R, W, rs, X, C, ok, wd, tk => by
    unfold chkS at h
    split at h
    · exact ss_brk
    · cases h
  | .cnt, c, s, h, R, W, rs, X, C, ok, wd, tk => by
    unfold chkS at h
    split at h
    · exact ss_cnt
    · cases h
theorem chkSs_ok {T : Sta} {N : List Str} : ∀ (as : List CS) {c : Scp} {es : List Stmt}, chkSs T N c as es = true → ∀ {R : RP} {W : WX} {rs : List Nat} {X : Cx} {C : Cxt}, XS R N c X → WldX R T C X → Takes X W → SSs R W rs X es (evSs C rs as)
  | [], c, [], _, _, _, _, _, _, _, _, _ => sss_nil
  | [], c, _ :: _, h, _, _, _, _, _, _, _, _ => by unfold chkSs at h; cases h
  | _ :: _, c, [], h, _, _, _, _, _, _, _, _ => by unfold chkSs at h; cases h
  | a :: as, c, e :: es, h, R, W, rs, X, C, ok, wd, tk => by
    unfold chkSs at h
    rw [Bool.and_eq_true] at h
    exact sss_cons (chkS_ok a h.1 ok wd tk) (chkSs_ok as h.2 ok wd tk)
end

/-! ### defs -/
/-- a def's text reads as F -/
def chkD (T : Sta) (N : List Str) (F : FD) (body : List Stmt) (scope : Scope) : Bool :=
  (match scope.kind with | .function => true | _ => false) && decide (scope.isCoroutine = false) && decide (scope.isGenerator = false) && decide N.Nodup && decide (N.take F.ps.length = F.ps.map (nmAt T.an)) && decide (F.ns = N.length) &&
    ((F.ps.map (nmAt T.an)).all fun x => isNm scope .local x || isNm scope .cell x) && (scope.names.all fun y => !decide (y.2 = .free)) && chkSs T N ⟨scope, fun _ => true⟩ F.body body
theorem chkD_scope {T : Sta} {N : List Str} {F : FD} {body : List Stmt} {scope : Scope} (h : chkD T N F body scope = true) : FnScope N (F.ps.map (nmAt T.an)) scope ∧ F.ns = N.length ∧ scope.kind = .function ∧ chkSs T N ⟨scope, fun _ => true⟩ F.body body = true := by
  unfold chkD at h
  simp only [Bool.and_eq_true, decide_eq_true_eq, List.all_eq_true, Bool.or_eq_true, Bool.not_eq_true', decide_eq_false_iff_not] at h
  obtain ⟨⟨⟨⟨⟨⟨⟨⟨h1, h2⟩, h3⟩, h4⟩, h5⟩, h6⟩, h7⟩, h8⟩, h9⟩ := h
  have hk : scope.kind = .function := by
    split at h1
    · assumption
    · cases h1
  refine ⟨⟨hk, h2, h3, h4, by rw [List.length_map]; exact h5, fun x hx => ?_, h8⟩, h6, hk, h9⟩
  rcases h7 x hx with q | q
  · exact .inl (isNm_iff q)
  · exact .inr (isNm_iff q)
theorem rf_start {R : RP} {r : List Addr} {H : Hp} : ∀ {ds : List D} {vs : List V} (n : Nat), Reps R r H ds vs → RF R r H (ds.map some ++ List.replicate n none) (vs.map some ++ List.replicate n none)
  | _, _, n, .nil => ⟨by simp, fun i d e => by
    simp only [List.map_nil, List.nil_append] at e
    rw [List.getElem?_replicate] at e
    split at e <;> cases e⟩
  | d :: ds, v :: vs, n, .cons q t => by
    have ih := rf_start n t
    refine ⟨by simp only [List.map_cons, List.cons_append, List.length_cons]; rw [ih.len], fun i e he => ?_⟩
    cases i with
    | zero => simp at he; subst he; exact ⟨v, by simp, q⟩
    | succ i =>
      simp only [List.map_cons, List.cons_append, List.getElem?_cons_succ] at he ⊢
      exact ih.at_ i e he
theorem out_sat {R : RP} {E : XK} {rs : List Nat} {r : List Addr} {H : Hp} {o : OS} {Q : VK} (hs : Sat R (fun c d _ H => E c d H) rs [] r H (Rep R) o.out Q) : SatS R (fun c d _ H => E c d H) rs r H o { nx := fun _ H' => Q .non H', rt := Q } := by
  cases o with
  | nx F S => exact fun r' H' st e h hF => hs r' H' .non e h .non
  | ret d S => exact hs
  | brk F S => exact hs.elim
  | cnt F S => exact hs.elim
  | exc x F S => exact fun r' H' st c d e h hF q => hs r' H' c d e h q
  | bad => exact hs
theorem isSome_len {F : FD} {n : Nat} : n = F.ps.length → True := fun _ => trivial
/-- a def, from its callees -/
theorem def_ok {R : RP} {T : Sta} {C : Cxt} {P : Program} {w : World} {K : PySem.W.Frag} {mg : Str → Option Value} {base : Heap} {k : Nat} {N : List Str} {F : FD} {x qual : Str} {params : Arguments} {body : List Stmt} {scope : Scope} {dvs : List V} {kws : List (Str × V)} {fa : Addr} {fd : FuncData} (hK : K = R.K)
    (FD' : FunD K x qual params body scope dvs kws fa fd) (hc : chkD T N F body scope = true) (hw : ∀ A, Room k A → Wld R T C P w K mg base A) : FnOk P w K mg base (L2.CX P w) (k + 1) fa fd (F.ps.map (nmAt T.an)) (spOf R F.ps.length (fun vs rs S => FD.run C F vs rs S)) := by
  obtain ⟨S, hns, hk, hb⟩ := chkD_scope hc
  refine FD'.ok S (fun vs H Q E sp => ?_) fun cdv A outer s H vs Q E hr sp => ?_
  · obtain ⟨hid, r, S0, ds, rs, hl, h, q, hs⟩ := sp
    rw [List.length_map, ← q.length]
    exact hl
  · obtain ⟨hid, r, S0, ds, rs, hl, h, q, hs⟩ := sp
    have xs : XS (R.h hid) N ⟨scope, fun _ => true⟩ (cxOf (L2.CX P w) P w K mg base N qual scope fa cdv A outer s H E) :=
      { hN := rfl, nd := S.nd, sc := rfl, fn := rfl, K := hK, calm := rfl, un := hr.units, ps := passes_of rfl, kind := hk }
    refine ⟨_, chkSs_ok F.body hb (W := fun c d _ H => E c d H) (rs := rs) (C := C) xs ((hw _ hr).hid hid) (takes_of rfl rfl rfl rfl), r, _, S0, h, ?_, out_sat hs⟩
    unfold L2.start
    rw [hns, q.length]
    exact rf_start _ q
end OM
set_option Elab.async false
set_option linter.all false
set_option maxRecDepth 100000
set_option maxHeartbeats 1000000
/-! OmLaw: all defs of a law at once; the law's end. -/
namespace OM
open PySem PySem.Spec PyProof.Rows L2

/-- a def, to a depth of calls -/
def callD (fs : List FD) (gl : Nat → Option D) : Nat → Nat → List D → List Nat → Sto → Out D
  | 0, _, _, _, _ => .bad
  | k + 1, f, vs, rs, S => match fs[f]? with
    | some F => F.run ⟨callD fs gl k, gl, fun f => (fs[f]?).map fun F => (F.ps, F.dv)⟩ vs rs S
    | none => .bad
def cxt (fs : List FD) (gl : Nat → Option D) (k : Nat) : Cxt := ⟨callD fs gl k, gl, fun f => (fs[f]?).map fun F => (F.ps, F.dv)⟩

/-! ### constants of the top -/
mutual
def dB (K : PySem.W.Frag) : D → Value → Bool
  | .non, u => (match u with
    | .none => true
    | _ => false)
  | .bl b, u => (match u with
    | .bool c => b == c
    | _ => false)
  | .int i, u => (match u with
    | .int j _ => decide (i = j)
    | _ => false)
  | .str x, u => (match u with
    | .str y _ => decide (mkS x = y) && okS x
    | _ => false)
  | .tup ds, u => (match u with
    | .ref a => (match K.lookup a with
      | some ⟨.type c, _, .seq its _, _⟩ => decide (c = "tuple") && decide (its.size ≤ sizeLine) && dBs K ds its.toList
      | _ => false)
    | _ => false)
  | _, _ => false
def dBs (K : PySem.W.Frag) : List D → List Value → Bool
  | [], us => us.isEmpty
  | d :: ds, us => (match us with
    | u :: us => dB K d u && dBs K ds us
    | [] => false)
end
mutual
theorem dB_ok {K : PySem.W.Frag} : ∀ {d : D} {u : Value}, dB K d u = true → ∃ v, RelV v u ∧ ∀ (R : RP) (r : List Addr) (H : Hp), R.K = K → Rep R r H d v
  | .non, u, h => by
    unfold dB at h
    split at h
    · exact ⟨.non, rfl, fun _ _ _ _ => .non⟩
    · cases h
  | .bl b, u, h => by
    unfold dB at h
    split at h
    · have e := eq_of_beq h
      subst e
      exact ⟨.bl b, rfl, fun _ _ _ _ => .bl b⟩
    · cases h
  | .int i, u, h => by
    unfold dB at h
    split at h
    · have e := of_decide_eq_true h
      subst e
      exact ⟨.int i, ⟨_, rfl⟩, fun _ _ _ _ => .int i⟩
    · cases h
  | .str x, u, h => by
    unfold dB at h
    split at h
    · rw [Bool.and_eq_true] at h
      have e := of_decide_eq_true h.1
      subst e
      exact ⟨.str (mkS x), ⟨_, rfl⟩, fun _ _ _ _ => .str h.2⟩
    · cases h
  | .tup ds, u, h => by
    unfold dB at h
    split at h
    · split at h
      · rename_i a _ c od its n sl q
        simp only [Bool.and_eq_true, decide_eq_true_eq] at h
        obtain ⟨⟨rfl, h2⟩, h3⟩ := h
        obtain ⟨vs, r1, r2⟩ := dBs_ok h3
        exact ⟨.ref a, rfl, fun R r H e => .tup (.inr ⟨_, its, n, by rw [e]; exact q, rfl, rfl, h2, r1⟩) (r2 R r H e)⟩
      · cases h
    · cases h
  | .lst _, u, h => by unfold dB at h; cases h
  | .dct _ _, u, h => by unfold dB at h; cases h
  | .obj _ _ _, u, h => by unfold dB at h; cases h
  | .exc _ _ _, u, h => by unfold dB at h; cases h
  | .ref _, u, h => by unfold dB at h; cases h
  | .fn _, u, h => by unfold dB at h; cases h
  | .cls _, u, h => by unfold dB at h; cases h
  | .ty _, u, h => by unfold dB at h; cases h
  | .frz _, u, h => by unfold dB at h; cases h
theorem dBs_ok {K : PySem.W.Frag} : ∀ {ds : List D} {us : List Value}, dBs K ds us = true → ∃ vs, Vals vs us ∧ ∀ (R : RP) (r : List Addr) (H : Hp), R.K = K → Reps R r H ds vs
  | [], us, h => by
    unfold dBs at h
    cases us with
    | nil => exact ⟨[], .nil, fun _ _ _ _ => .nil⟩
    | cons _ _ => cases h
  | d :: ds, us, h => by
    unfold dBs at h
    cases us with
    | nil => cases h
    | cons u us =>
      dsimp only at h
      rw [Bool.and_eq_true] at h
      obtain ⟨v, a, b⟩ := dB_ok h.1
      obtain ⟨vs, c, e⟩ := dBs_ok h.2
      exact ⟨v :: vs, .cons a c, fun R r H z => .cons (b R r H z) (e R r H z)⟩
end

/-! ### the table -/
/-- a def's parts -/
def argsOf : Stmt → Arguments
  | .FunctionDef _ a _ _ _ _ _ _ _ _ => a
  | _ => ⟨[], [], none, [], [], none, []⟩
def bodyOf : Stmt → List Stmt
  | .FunctionDef _ _ b _ _ _ _ _ _ _ => b
  | _ => []
def scopeOf : Stmt → Scope
  | .FunctionDef _ _ _ _ _ _ sc _ _ _ => sc
  | _ => ⟨.function, [], false, false, []⟩
structure Ent where
  d : He.DefD
  F : FD
  N : List Str
  shp : List (Nat × List Nat)
structure Tbl where
  gn : List Str
  an : List Str
  bl : List Str
  es : List Ent
  gl : List (Nat × D)
def Tbl.fs (t : Tbl) : List FD := t.es.map (·.F)
def Tbl.glo (t : Tbl) : Nat → Option D := fun g => t.gl.lookup g
def Tbl.sta (t : Tbl) : Sta := ⟨t.gn, t.an, fun f => (t.es[f]?).map (·.F), fun f => ((t.es[f]?).map (·.shp)).getD [], t.bl⟩
/-- how a shape of call binds -/
def ShB (an : List Str) (d : He.DefD) (ps : List Nat) (n : Nat) (kn : List Nat) : Prop :=
  ∀ (kV doc pm : Value) (av : Option Addr) (cdv ct : Value) (us ws zs : List Value), us.length = n → ws.length = kn.length → bindA [] ps us kn ws = some zs →
    bindArgs (PySem.W.fnOf d.name d.qual d.params d.body d.scope .none kV doc pm av cdv ct) ⟨us, (kn.map (nmAt an)).zip ws⟩ = pure ((ps.map (nmAt an)).zip zs)
def ShL (an : List Str) (e : Ent) : List (Nat × List Nat) → Prop
  | [] => True
  | q :: l => ShB an e.d e.F.ps q.1 q.2 ∧ ShL an e l
def ShA (an : List Str) : List Ent → Prop
  | [] => True
  | e :: es => ShL an e e.shp ∧ ShA an es
theorem ShL.get {an : List Str} {e : Ent} : ∀ {l : List (Nat × List Nat)} {q : Nat × List Nat}, ShL an e l → q ∈ l → ShB an e.d e.F.ps q.1 q.2
  | _ :: _, q, h, m => by
    rcases List.mem_cons.mp m with rfl | m
    · exact h.1
    · exact ShL.get h.2 m
theorem ShA.get {an : List Str} : ∀ {es : List Ent} {e : Ent}, ShA an es → e ∈ es → ShL an e e.shp
  | _ :: _, e, h, m => by
    rcases List.mem_cons.mp m with rfl | m
    · exact h.1
    · exact ShA.get h.2 m
/-- the i-th entry is the module's name gn[i], a def without defaults -/
def entOk (t : Tbl) : Nat → List Ent → Bool
  | _, [] => true
  | i, e :: es => decide (e.d.at_ = (nmAt t.gn i, none)) && e.d.dfl.isEmpty && e.d.kwd.isEmpty && e.F.dv.isEmpty && chkD t.sta e.N e.F e.d.body e.d.scope && entOk t (i + 1) es
theorem entOk_at {t : Tbl} : ∀ {es : List Ent} {i f : Nat} {e : Ent}, entOk t i es = true → es[f]? = some e → e.d.at_ = (nmAt t.gn (i + f), none) ∧ e.d.dfl = [] ∧ e.d.kwd = [] ∧ e.F.dv = [] ∧ chkD t.sta e.N e.F e.d.body e.d.scope = true
  | [], _, f, _, _, q => by simp at q
  | e0 :: es, i, 0, e, h, q => by
    simp at q
    subst q
    unfold entOk at h
    simp only [Bool.and_eq_true, decide_eq_true_eq, List.isEmpty_iff] at h
    exact ⟨h.1.1.1.1.1, h.1.1.1.1.2, h.1.1.1.2, h.1.1.2, h.1.2⟩
  | e0 :: es, i, f + 1, e, h, q => by
    unfold entOk at h
    rw [Bool.and_eq_true] at h
    have := entOk_at (f := f) h.2 (by simpa using q)
    rw [show i + (f + 1) = i + 1 + f by omega]
    exact this
def Tbl.fa (t : Tbl) : List He.Fa := (t.es.map fun e => He.Fa.glo e.d.at_.1) ++ t.bl.map He.Fa.free
def Tbl.fn (t : Tbl) : List He.DefD := t.es.map (·.d)
def Tbl.ex (t : Tbl) (K : PySem.W.Frag) : Bool := t.gl.all fun q => match PySem.W.nsIn K mainGlobals (nmAt t.gn q.1) with
  | some (some u) => dB K q.2 u
  | _ => false
theorem shape_mk {K : PySem.W.Frag} {an : List Str} {d : He.DefD} {ps : List Nat} {n : Nat} {kn : List Nat} {f : Addr} {fd : FuncData} (F : FunD K d.name d.qual d.params d.body d.scope [] [] f fd) (h : ShB an d ps n kn) : Shape K (nmAt an) fd ps [] n kn := by
  intro s us ws zs _ hu hw e
  obtain ⟨oc, od, dV, kV, doc, pm, av, cdv, ct, osl, rfl, lk, hcd, hD, hK⟩ := F.ex
  rcases hD with ⟨_, rfl⟩ | ⟨e, _⟩
  · exact .of_eq (h kV doc pm av cdv ct us ws zs hu hw e)
  · exact absurd rfl e
/-- what stands behind the top -/
structure Facts (t : Tbl) (K : PySem.W.Frag) (mg : Str → Option Value) : Prop where
  ent : ∀ f e, t.es[f]? = some e → ∃ fd, mg (nmAt t.gn f) = some (.ref (He.ga K (nmAt t.gn f))) ∧ FunD K e.d.name e.d.qual e.d.params e.d.body e.d.scope [] [] (He.ga K (nmAt t.gn f)) fd ∧ e.F.dv = [] ∧ chkD t.sta e.N e.F e.d.body e.d.scope = true ∧ ∀ q ∈ e.shp, Shape K (nmAt t.an) fd e.F.ps [] q.1 q.2
  glo : ∀ g d, t.glo g = some d → ∃ u v, mg (nmAt t.gn g) = some u ∧ RelV v u ∧ ∀ (R : RP) (r : List Addr) (H : Hp), R.K = K → Rep R r H d v
  bl : ∀ x ∈ t.bl, mg x = none
theorem lookN_mem {g : Nat} {d : D} : ∀ {l : List (Nat × D)}, l.lookup g = some d → (g, d) ∈ l
  | [], h => by cases h
  | (b, u) :: r, h => by
    rw [List.lookup_cons] at h
    cases q : (g == b) with
    | true =>
      rw [q] at h
      cases h
      rw [eq_of_beq q]
      exact List.mem_cons_self
    | false =>
      rw [q] at h
      exact List.mem_cons_of_mem _ (lookN_mem h)
theorem binds_mk {K : PySem.W.Frag} {an : List Str} {d : He.DefD} {p : Nat} {f : Addr} {fd : FuncData} (F : FunD K d.name d.qual d.params d.body d.scope [] [] f fd) (h : ShB an d [p] 1 []) (s : Shared) (u : Value) : BindsTo s fd ⟨[u], []⟩ [(nmAt an p, u)] := by
  obtain ⟨oc, od, dV, kV, doc, pm, av, cdv, ct, osl, rfl, lk, hcd, hD, hK⟩ := F.ex
  rcases hD with ⟨_, rfl⟩ | ⟨e, _⟩
  · exact .of_eq (h kV doc pm av cdv ct [u] [] [u] rfl rfl rfl)
  · exact absurd rfl e
theorem facts_of {t : Tbl} {K : PySem.W.Frag} {h : Heap} {mg : Str → Option Value} (X : K.In h) (G : h.Ns mainGlobals mg) (c : He.SaysD t.fa t.fn K) (ex : t.ex K = true) (ok : entOk t 0 t.es = true) (sh : ShA t.an t.es) : Facts t K mg := by
  refine ⟨fun f e q => ?_, fun g d q => ?_, fun x m => ?_⟩
  · have me : e ∈ t.es := List.mem_of_getElem? q
    obtain ⟨h1, h2, h3, h4, h5⟩ := entOk_at ok q
    rw [Nat.zero_add] at h1
    obtain ⟨fd, F⟩ := c.defs (d := e.d) (List.mem_map.mpr ⟨e, me, rfl⟩)
    have ea : He.fAd K e.d.at_ = He.ga K (nmAt t.gn f) := by rw [h1]; rfl
    have ed : e.d.dvs K = [] := by unfold He.DefD.dvs; rw [h2]; rfl
    have ek : e.d.kws K = [] := by unfold He.DefD.kws; rw [h3]; rfl
    rw [ea, ed, ek] at F
    refine ⟨fd, ?_, F, h4, h5, fun q hq => shape_mk F ((sh.get me).get hq)⟩
    have := c.facts (f := .glo e.d.at_.1) (List.mem_append_left _ (List.mem_map.mpr ⟨e, me, rfl⟩))
    rw [h1] at this
    exact He.glo_ok X G this
  · have m : (g, d) ∈ t.gl := lookN_mem q
    have z := List.all_eq_true.mp ex _ m
    dsimp only at z
    split at z
    · rename_i u e
      obtain ⟨v, a, b⟩ := dB_ok z
      exact ⟨u, v, PySem.W.mg_of X G e, a, b⟩
    · cases z
  · exact He.free_ok X G (c.facts (f := .free x) (List.mem_append_right _ (List.mem_map.mpr ⟨x, m, rfl⟩)))

section
variable {t : Tbl} {K : PySem.W.Frag} {mg : Str → Option Value} {P : Program} {w : World} {base : Heap} {R : RP}
theorem wld_of (fc : Facts t K mg) (hK : R.K = K) (hA : R.an = nmAt t.an) {k : Nat} (ih : ∀ f e, t.es[f]? = some e → ∀ fd, FunD K e.d.name e.d.qual e.d.params e.d.body e.d.scope [] [] (He.ga K (nmAt t.gn f)) fd → FnOk P w K mg base (L2.CX P w) k (He.ga K (nmAt t.gn f)) fd (e.F.ps.map (nmAt t.an)) (spOf R e.F.ps.length (callD t.fs t.glo k f)))
    {A : Around} (hr : Room k A) : Wld R t.sta (cxt t.fs t.glo k) P w K mg base A := by
  refine ⟨hA, fun f F hf => ?_, fun f => ?_, fun g d q => ?_, fc.bl⟩
  · have hf : (t.es[f]?).map (·.F) = some F := hf
    cases q : t.es[f]? with
    | none => rw [q] at hf; cases hf
    | some e =>
      rw [q] at hf
      cases hf
      obtain ⟨fd, h1, h2, h3, h4, h5⟩ := fc.ent f e q
      refine ⟨k, _, fd, [], [], h1, h2.kp, ih f e q fd h2, hr, fun _ _ _ => by rw [h3]; exact .nil, .nil, fun p hp => ?_⟩
      have hp : p ∈ ((t.es[f]?).map (·.shp)).getD [] := hp
      rw [q] at hp
      exact h5 p hp
  · show ((t.es.map (·.F))[f]?).map _ = ((t.es[f]?).map (·.F)).map _
    rw [List.getElem?_map]
  · obtain ⟨u, v, a, b, c⟩ := fc.glo g d q
    exact ⟨u, v, a, b, fun hid r H => c _ r H hK⟩
theorem all_ok (fc : Facts t K mg) (hK : R.K = K) (hA : R.an = nmAt t.an) : ∀ (k f : Nat) (e : Ent), t.es[f]? = some e → ∀ fd, FunD K e.d.name e.d.qual e.d.params e.d.body e.d.scope [] [] (He.ga K (nmAt t.gn f)) fd →
    FnOk P w K mg base (L2.CX P w) k (He.ga K (nmAt t.gn f)) fd (e.F.ps.map (nmAt t.an)) (spOf R e.F.ps.length (callD t.fs t.glo k f))
  | 0, f, e, q, fd, F => by
    refine ⟨fun vs H Q E ⟨hid, r, S, ds, rs, _, _, _, hs⟩ => False.elim hs, fun A outer s H args us vs Q E _ _ _ _ ⟨hid, r, S, ds, rs, _, _, _, hs⟩ => False.elim hs⟩
  | k + 1, f, e, q, fd, F => by
    obtain ⟨_, _, _, h3, h4, _⟩ := fc.ent f e q
    have g := def_ok (P := P) (w := w) (mg := mg) (base := base) (k := k) hK.symm F h4 (fun A hr => wld_of fc hK hA (all_ok fc hK hA k) hr)
    refine g.imp fun vs H Q E ⟨hid, r, S, ds, rs, a, b, c, hs⟩ => ⟨hid, r, S, ds, rs, a, b, c, ?_⟩
    have ef : t.fs[f]? = some e.F := by unfold Tbl.fs; rw [List.getElem?_map, q]; rfl
    unfold callD at hs
    rw [ef] at hs
    exact hs
end

/-! ### the law -/
theorem cx_end {P : Program} {w : World} {H : Hp} {s : Shared} {e : Value} {s' : Shared} (h : L2.CX P w [] H s (fun _ _ _ => False) e s') : False := by
  unfold L2.CX at h
  simp only [and_false, exists_false] at h
/-- the law's def is the n-th entry; the evaluator says True for every script -/
theorem law_end {t : Tbl} {K : PySem.W.Frag} {h : Heap} {mg : Str → Option Value} {l : PySem.W.OpenLaw} {w : World} {fa : Addr} {m n k : Nat} {e : Ent} {x : Str} (X : K.In h) (G : h.Ns mainGlobals mg) (c : He.SaysD t.fa t.fn K) (ex : t.ex K = true) (ok : entOk t 0 t.es = true) (sh : ShA t.an t.es)
    (he : t.es[n]? = some e) (hx : e.F.ps.map (nmAt t.an) = [x]) (hsh : (1, ([] : List Nat)) ∈ e.shp) (hmg : mg (nmAt t.gn n) = some (.ref fa)) (math : ∀ ns : List Int, ns.length ≤ m → ∃ S, callD t.fs t.glo k n [.frz ns] [] [] = .ok (.bl true) S) :
    ∃ (K : PySem.W.Frag) (fd : FuncData) (sp : Sp), K.In h ∧ (∀ (s : Shared) (u : Value), BindsTo s fd ⟨[u], []⟩ [(x, u)]) ∧
      (∀ (H : Hp) (a : Addr) (ns : List Int), ns.length ≤ m → Only H → SqL K H a (ns.map V.int) → sp [.ref a] H (fun v _ => v = .bl true) fun _ _ _ => False) ∧
      ∀ base : Heap, K.In base → base.Ns mainGlobals mg → FnOk l.prog w K mg base (L2.CX l.prog w) k fa fd [x] sp := by
  have fc := facts_of X G c ex ok sh
  obtain ⟨fd, h1, h2, h3, h4, h5⟩ := fc.ent n e he
  have ea : He.ga K (nmAt t.gn n) = fa := by
    rw [hmg] at h1
    cases h1
    rfl
  let R : RP := ⟨K, fun _ => 0, fun _ => 0, nmAt t.an, []⟩
  obtain ⟨p, hp⟩ : ∃ p, e.F.ps = [p] := by
    cases q : e.F.ps with
    | nil => rw [q] at hx; cases hx
    | cons p l =>
      cases l with
      | nil => exact ⟨p, rfl⟩
      | cons _ _ => rw [q] at hx; cases hx
  have hpx : nmAt t.an p = x := by rw [hp] at hx; exact List.head_eq_of_cons_eq hx
  refine ⟨K, fd, spOf R 1 (callD t.fs t.glo k n), X, fun s u => ?_, fun H a ns hl hO hS => ?_, fun base _ _ => ?_⟩
  · have b := (sh.get (List.mem_of_getElem? he)).get hsh
    rw [hp] at b
    rw [← hpx]
    exact binds_mk h2 b s u
  · refine ⟨[], [], [], [.frz ns], [], rfl, ⟨rfl, List.nodup_nil, fun n c q => by simp at q, fun m hm => by simp at hm, fun a m => by simp at m⟩, .cons (.frz ?_) .nil, ?_⟩
    · rcases hS with hS | hS
      · exact .inl ⟨hS, by simp, by simp⟩
      · exact .inr hS
    · obtain ⟨S, es⟩ := math ns hl
      rw [es]
      intro r' H' v _ _ q
      cases q
      rfl
  · have g := all_ok (P := l.prog) (w := w) (base := base) (R := R) fc rfl rfl k n e he fd h2
    rw [hp, ea] at g
    rw [← hpx]
    exact g
theorem walk_ofW {l : PySem.W.OpenLaw} {n k : Nat} {q : Program} {loose : List Str} {XP : (Str → Option Value) → Heap → Prop} {YP : World → Heap → Prop} {d : DefRec} {CX : World → CXT} {x : Str}
    (hn : l.most = some n) (hn2 : n ≤ sizeLine) (hdf : d.params.defaults = []) (hr : Room k callerA)
    (F : ∀ (w : World) (mg : Str → Option Value) (fa : Addr) (h : Heap), YP w h → h.Ns mainGlobals mg → mg d.name = some (.ref fa) →
      ∃ (K : PySem.W.Frag) (fd : FuncData) (sp : Sp), K.In h ∧ (∀ (s : Shared) (u : Value), BindsTo s fd ⟨[u], []⟩ [(x, u)]) ∧
        (∀ (H : Hp) (a : Addr) (ns : List Int), ns.length ≤ n → Only H → SqL K H a (ns.map V.int) → sp [.ref a] H (fun v _ => v = .bl true) fun _ _ _ => False) ∧
        ∀ base : Heap, K.In base → base.Ns mainGlobals mg → FnOk l.prog w K mg base (CX w) k fa fd [x] sp)
    (hCX : ∀ (w : World) (H : Hp) (s : Shared) (e : Value) (s' : Shared), CX w [] H s (fun _ _ _ => False) e s' → False) :
    PySem.W.WalkO q loose XP YP l.row.toRowW d [] (fun f vs => PySem.call f vs) := by
  refine Att.attach_call hn hdf fun w s₀ s₁ mg mb fa o pm cd doc a vs ns G Y ho hd hcd hmg hobj hints hlen hg => ?_
  obtain ⟨K, fd, sp, KX, hb, hsp, hF⟩ := F w mg fa _ Y G.T.g hmg
  exact law_call KX G.T.g G.T.b G.T.builtins G.T.nolimit hg hobj hints (Nat.le_trans hlen hn2) hr hF hb (fun H hO hS => hsp H a ns hlen hO hS) fun H e s' => hCX w H s₁ e s'
end OM
set_option Elab.async false
set_option linter.all false
set_option maxRecDepth 100000
set_option maxHeartbeats 1000000
/-! OmMath: what the laws' own helpers do: drawing numbers, comparing. -/
namespace OM

/-! ### drawing -/
def B_pull : List CS := [
  .cond (.bop true [.cmp .eq (.idx (.slot 0) (.cst (.int 2))) (.cst (.int 0)), .cmp .lt (.idx (.slot 0) (.cst (.int 1))) (.bcall false .len [.idx (.slot 0) (.cst (.int 0))])]) [
    .set 2 (.idx (.idx (.slot 0) (.cst (.int 0))) (.idx (.slot 0) (.cst (.int 1)))),
    .sub (.slot 0) (.cst (.int 1)) (.bin .add (.idx (.slot 0) (.cst (.int 1))) (.cst (.int 1))),
    .cond (.cmp .ge (.slot 2) (.bin .pow (.cst (.int 10)) (.cst (.int 18)))) [
      .sub (.slot 0) (.cst (.int 2)) (.slot 2)] [
      .sub (.slot 0) (.cst (.int 3)) (.bin .mod (.bcall false .int [.bin .add (.bin .add (.bin .mul (.idx (.slot 0) (.cst (.int 3))) (.cst (.int 60383))) (.bin .mul (.bin .mod (.bcall false .int [.slot 2]) (.cst (.int 2147482817))) (.cst (.int 7577)))) (.cst (.int 61))]) (.cst (.int 2147483587)))]] [],
  .cond (.cmp .gt (.idx (.slot 0) (.cst (.int 2))) (.cst (.int 0))) [
    .set 3 (.bin .mod (.bcall false .int [.idx (.slot 0) (.cst (.int 2))]) (.slot 1)),
    .sub (.slot 0) (.cst (.int 2)) (.bin .fdiv (.idx (.slot 0) (.cst (.int 2))) (.slot 1)),
    .ret (.slot 3)] [],
  .set 4 (.idx (.slot 0) (.cst (.int 3))),
  .sub (.slot 0) (.cst (.int 3)) (.bin .mod (.bcall false .int [.bin .add (.bin .add (.bin .mul (.slot 4) (.slot 4)) (.bin .mul (.slot 4) (.cst (.int 27793)))) (.cst (.int 1302017))]) (.cst (.int 2147483587))),
  .ret (.bin .mod (.bcall false .int [.bin .add (.bin .fdiv (.idx (.slot 0) (.cst (.int 3))) (.cst (.int 73))) (.bin .mul (.bin .mod (.bcall false .int [.idx (.slot 0) (.cst (.int 3))]) (.cst (.int 7927))) (.cst (.int 53)))]) (.slot 1))]
def bagC (ns : List Int) (i big seed : Int) : Cell := .lst [.lst (ns.map D.int), .int i, .int big, .int seed]
/-- the cell b is a bag of numbers -/
def Bag (S : Sto) (b : Nat) : Prop := ∃ ns i big seed, S[b]? = some (bagC ns i big seed) ∧ 0 ≤ i ∧ 0 ≤ big ∧ 0 ≤ seed ∧ seed < 2147483587
/-- only the bag has changed -/
def Drew (S S' : Sto) (b : Nat) : Prop := Bag S' b ∧ ∃ c, S' = S.set b c
theorem Drew.len {S S' : Sto} {b : Nat} (h : Drew S S' b) : S'.length = S.length := by
  obtain ⟨_, c, rfl⟩ := h
  exact List.length_set
theorem Drew.trans {S S' S'' : Sto} {b : Nat} (h : Drew S S' b) (g : Drew S' S'' b) : Drew S S'' b := by
  obtain ⟨_, c, rfl⟩ := h
  obtain ⟨h2, c2, rfl⟩ := g
  exact ⟨h2, c2, by rw [List.set_set]⟩
theorem Drew.refl {S : Sto} {b : Nat} (h : Bag S b) : Drew S S b := by
  refine ⟨h, ?_⟩
  obtain ⟨ns, i, big, seed, e, _⟩ := h
  refine ⟨bagC ns i big seed, ?_⟩
  obtain ⟨hb, e2⟩ := List.getElem?_eq_some_iff.mp e
  rw [← e2, List.set_getElem_self]
theorem Bag.lt {S : Sto} {b : Nat} (h : Bag S b) : b < S.length := by
  obtain ⟨ns, i, big, seed, e, _⟩ := h
  exact (List.getElem?_eq_some_iff.mp e).1

section
variable {X : Cxt} {rs : List Nat} {F : Fr} {S : Sto} {b : Nat} {a0 a1 a2 a3 : D}
theorem rd0 (hF : F[0]? = some (some (.ref b))) (hS : S[b]? = some (.lst [a0, a1, a2, a3])) : ev X rs (.idx (.slot 0) (.cst (.int 0))) F S = .ok a0 S := by
  simp [ev, Out.bind, vIdx, seqOf, place, hF, hS]
theorem rd1 (hF : F[0]? = some (some (.ref b))) (hS : S[b]? = some (.lst [a0, a1, a2, a3])) : ev X rs (.idx (.slot 0) (.cst (.int 1))) F S = .ok a1 S := by
  simp [ev, Out.bind, vIdx, seqOf, place, hF, hS]
theorem rd2 (hF : F[0]? = some (some (.ref b))) (hS : S[b]? = some (.lst [a0, a1, a2, a3])) : ev X rs (.idx (.slot 0) (.cst (.int 2))) F S = .ok a2 S := by
  simp [ev, Out.bind, vIdx, seqOf, place, hF, hS]
theorem rd3 (hF : F[0]? = some (some (.ref b))) (hS : S[b]? = some (.lst [a0, a1, a2, a3])) : ev X rs (.idx (.slot 0) (.cst (.int 3))) F S = .ok a3 S := by
  simp [ev, Out.bind, vIdx, seqOf, place, hF, hS]
theorem fits_int {n : Nat} {v : Int} : fitsIn rs n (.int v) = true := by
  unfold fitsIn
  simp [D.lo]
theorem wr {e : CE} {k : Nat} {v : Int} (hk : k < 4) (hF : F[0]? = some (some (.ref b))) (hS : S[b]? = some (.lst [a0, a1, a2, a3])) (he : ev X rs e F S = .ok (.int v) S) : evS X rs (.sub (.slot 0) (.cst (.int k)) e) F S = .nx F (S.set b (.lst ([a0, a1, a2, a3].set k (.int v)))) := by
  have p : place (k : Int) 4 = some k := by
    unfold place
    rw [if_pos (by omega), if_pos (by omega)]
    rfl
  simp [evS, he, Out.run, ev, hF, vSet, hS, p, fits_int]
end
theorem gset {S : Sto} {b : Nat} {c : Cell} (h : b < S.length) : (S.set b c)[b]? = some c := List.getElem?_set_self h
theorem mulV {i : Int} {S : Sto} {c : Int} (h : mulFits i c = true) : vBin .mul (.int i) (.int c) S = .ok (.int (i * c)) S := by
  simp [vBin, vMul, h, okIf]
theorem modV {i c : Int} {S : Sto} (h : 0 < c) : vBin .mod (.int i) (.int c) S = .ok (.int (i % c)) S := by
  simp [vBin, okIf, h]
theorem fdivV {i c : Int} {S : Sto} (h : 0 < c) (h2 : c < 1073741824) : vBin .fdiv (.int i) (.int c) S = .ok (.int (i / c)) S := by
  simp [vBin, okIf, h, h2]
theorem addV {i c : Int} {S : Sto} : vBin .add (.int i) (.int c) S = .ok (.int (i + c)) S := rfl
theorem intV {i : Int} {mu : Bool} {S : Sto} : vBi mu .int [.int i] S = .ok (.int i) S := rfl
theorem fits_l {i c : Int} (h1 : -18446744073709551616 < i) (h2 : i < 18446744073709551616) : mulFits i c = true := by
  unfold mulFits
  simp [h1, h2]
theorem fits_r {i c : Int} (h1 : -18446744073709551616 < c) (h2 : c < 18446744073709551616) : mulFits i c = true := by
  unfold mulFits
  simp [h1, h2]
theorem seq_nx {F : Fr} {S : Sto} {k : Fr → Sto → OS} : OS.seq (.nx F S) k = k F S := rfl
theorem seq_ret {d : D} {S : Sto} {k : Fr → Sto → OS} : OS.seq (.ret d S) k = .ret d S := rfl
theorem evSs_cons {X : Cxt} {rs : List Nat} {s : CS} {r : List CS} {F : Fr} {S : Sto} : evSs X rs (s :: r) F S = (evS X rs s F S).seq (evSs X rs r) := by simp only [evSs]
theorem evSs_nil {X : Cxt} {rs : List Nat} {F : Fr} {S : Sto} : evSs X rs [] F S = .nx F S := by simp only [evSs]
theorem bind_ok {α β : Type} {a : α} {S : Sto} {f : α → Sto → Out β} : (Out.ok a S).bind f = f a S := rfl
theorem run_ok {α : Type} {a : α} {S : Sto} {F : Fr} {f : α → Sto → OS} : (Out.ok a S).run F f = f a S := rfl
/-- a test that tells b -/
theorem cond_ev {X : Cxt} {rs : List Nat} {c : CE} {p q : List CS} {F : Fr} {S S1 : Sto} {b : Bool} (h : ev X rs c F S = .ok (.bl b) S1) : evS X rs (.cond c p q) F S = if b then evSs X rs p F S1 else evSs X rs q F S1 := by
  simp only [evS, h, Out.run, truth]
  cases b <;> rfl
theorem set_ev {X : Cxt} {rs : List Nat} {i : Nat} {e : CE} {F : Fr} {S S1 : Sto} {d : D} (h : ev X rs e F S = .ok d S1) : evS X rs (.set i e) F S = .nx (F.set i (some d)) S1 := by
  simp only [evS, h, Out.run]
theorem ret_ev {X : Cxt} {rs : List Nat} {e : CE} {F : Fr} {S S1 : Sto} {d : D} (h : ev X rs e F S = .ok d S1) : evS X rs (.ret e) F S = .ret d S1 := by
  simp only [evS, h, Out.run]

section
variable {X : Cxt} {rs : List Nat}
/-- the bag's first part: a number of the script comes in -/
theorem pull_in {S : Sto} {b : Nat} {m : Int} (h : Bag S b) : ∃ x S', evS X rs (B_pull.headD .pas) [some (.ref b), some (.int m), none, none, none] S = .nx [some (.ref b), some (.int m), x, none, none] S' ∧ Drew S S' b := by
  obtain ⟨ns, i, big, seed, hS, hi, hbg, hs, hs2⟩ := h
  have hb := (List.getElem?_eq_some_iff.mp hS).1
  have hbag : Bag S b := ⟨ns, i, big, seed, hS, hi, hbg, hs, hs2⟩
  unfold bagC at hS
  simp only [B_pull, List.headD_cons]
  have c1 : ev X rs (.bop true [.cmp .eq (.idx (.slot 0) (.cst (.int 2))) (.cst (.int 0)), .cmp .lt (.idx (.slot 0) (.cst (.int 1))) (.bcall false .len [.idx (.slot 0) (.cst (.int 0))])]) [some (.ref b), some (.int m), none, none, none] S = .ok (.bl (decide (big = 0) && decide (i < ns.length))) S := by
    simp only [ev, evB, evL]
    by_cases z : big = 0
    · subst z
      simp [Out.bind, vIdx, seqOf, place, hS, vCmp, vEq, datOf, D.plain, D.dep, D.eqv, truth, vBi, vBi1, lenOf]
    · have z' : (big == 0) = false := by simpa using z
      simp [Out.bind, vIdx, seqOf, place, hS, vCmp, vEq, datOf, D.plain, D.dep, D.eqv, truth, vBi, vBi1, lenOf, z, z']
  rw [cond_ev c1]
  by_cases z : (decide (big = 0) && decide (i < ns.length)) = true
  · rw [z]
    simp only [if_true]
    simp only [Bool.and_eq_true, decide_eq_true_eq] at z
    obtain ⟨rfl, hl⟩ := z
    have hin : i.toNat < ns.length := by omega
    let v := ns[i.toNat]
    have e1 : ev X rs (.idx (.idx (.slot 0) (.cst (.int 0))) (.idx (.slot 0) (.cst (.int 1)))) [some (.ref b), some (.int m), none, none, none] S = .ok (.int v) S := by
      have p : place i (ns.map D.int).length = some i.toNat := by
        unfold place
        rw [List.length_map, if_pos hi, if_pos hin]
      have r0 := rd0 (X := X) (rs := rs) (F := [some (.ref b), some (.int m), none, none, none]) rfl hS
      have r1 := rd1 (X := X) (rs := rs) (F := [some (.ref b), some (.int m), none, none, none]) rfl hS
      show (ev X rs (.idx (.slot 0) (.cst (.int 0))) _ S).bind _ = _
      rw [r0, bind_ok, r1, bind_ok]
      simp only [vIdx, seqOf, p, List.getElem?_map, List.getElem?_eq_getElem hin, Option.map_some]
      rfl
    rw [evSs_cons, set_ev e1, seq_nx]
    have w1 : ev X rs (.bin .add (.idx (.slot 0) (.cst (.int 1))) (.cst (.int 1))) [some (.ref b), some (.int m), some (.int v), none, none] S = .ok (.int (i + 1)) S := by
      have r1 := rd1 (X := X) (rs := rs) (F := [some (.ref b), some (.int m), some (.int v), none, none]) rfl hS
      show (ev X rs (.idx (.slot 0) (.cst (.int 1))) _ S).bind _ = _
      rw [r1, bind_ok]
      rfl
    rw [evSs_cons]
    have w1' := wr (X := X) (rs := rs) (k := 1) (by omega) (F := [some (.ref b), some (.int m), some (.int v), none, none]) rfl hS w1
    show ∃ x S', (evS X rs (.sub (.slot 0) (.cst (.int 1)) _) [some (.ref b), some (.int m), some (.int v), none, none] S).seq _ = _ ∧ _
    have w1'' : evS X rs (.sub (.slot 0) (.cst (.int 1)) (.bin .add (.idx (.slot 0) (.cst (.int 1))) (.cst (.int 1)))) [some (.ref b), some (.int m), some (.int v), none, none] S = .nx [some (.ref b), some (.int m), some (.int v), none, none] (S.set b (.lst [.lst (ns.map D.int), .int (i + 1), .int 0, .int seed])) := w1'
    rw [w1'', seq_nx, evSs_cons]
    have hS2 : (S.set b (.lst [.lst (ns.map D.int), .int (i + 1), .int 0, .int seed]))[b]? = some (.lst [.lst (ns.map D.int), .int (i + 1), .int 0, .int seed]) := gset hb
    generalize hS2e : S.set b (.lst [.lst (ns.map D.int), .int (i + 1), .int 0, .int seed]) = S2 at hS2 ⊢
    have hb2 : b < S2.length := by rw [← hS2e, List.length_set]; exact hb
    have c2 : ev X rs (.cmp .ge (.slot 2) (.bin .pow (.cst (.int 10)) (.cst (.int 18)))) [some (.ref b), some (.int m), some (.int v), none, none] S2 = .ok (.bl (decide ((10 : Int) ^ 18 ≤ v))) S2 := by
      simp [ev, Out.bind, vBin, okIf, vCmp]
    rw [cond_ev c2]
    by_cases hv : (10 : Int) ^ 18 ≤ v
    · rw [decide_eq_true hv]
      simp only [if_true]
      have w2 : evS X rs (.sub (.slot 0) (.cst (.int 2)) (.slot 2)) [some (.ref b), some (.int m), some (.int v), none, none] S2 = .nx [some (.ref b), some (.int m), some (.int v), none, none] (S2.set b (.lst [.lst (ns.map D.int), .int (i + 1), .int v, .int seed])) :=
        wr (k := 2) (by omega) rfl hS2 (by simp [ev])
      rw [evSs_cons, w2, seq_nx, evSs_nil, seq_nx, evSs_nil]
      refine ⟨_, _, rfl, ⟨ns, i + 1, v, seed, gset hb2, by omega, ?_, hs, hs2⟩, _, by rw [← hS2e, List.set_set]⟩
      have : (0 : Int) ≤ 10 ^ 18 := by decide
      omega
    · rw [decide_eq_false hv]
      simp only [Bool.false_eq_true, if_false]
      have w3 : ev X rs (.bin .mod (.bcall false .int [.bin .add (.bin .add (.bin .mul (.idx (.slot 0) (.cst (.int 3))) (.cst (.int 60383))) (.bin .mul (.bin .mod (.bcall false .int [.slot 2]) (.cst (.int 2147482817))) (.cst (.int 7577)))) (.cst (.int 61))]) (.cst (.int 2147483587))) [some (.ref b), some (.int m), some (.int v), none, none] S2 = .ok (.int ((seed * 60383 + v % 2147482817 * 7577 + 61) % 2147483587)) S2 := by
        have r3 := rd3 (X := X) (rs := rs) (F := [some (.ref b), some (.int m), some (.int v), none, none]) rfl hS2
        simp only [ev, evL]
        have r3' : (ev X rs (.slot 0) [some (.ref b), some (.int m), some (.int v), none, none] S2).bind (fun x S1 => (Out.ok (.int 3) S1).bind fun y S2 => vIdx x y S2) = .ok (.int seed) S2 := by simpa only [ev] using r3
        simp only [ev] at r3'
        rw [r3']
        simp only [bind_ok, List.getElem?_cons_succ, List.getElem?_cons_zero]
        rw [mulV (fits_r (by decide) (by decide))]
        simp only [bind_ok, intV]
        rw [modV (by decide)]
        simp only [bind_ok]
        rw [mulV (fits_r (by decide) (by decide))]
        simp only [bind_ok, addV, intV]
        rw [modV (by decide)]
      have w3' : evS X rs (.sub (.slot 0) (.cst (.int 3)) _) [some (.ref b), some (.int m), some (.int v), none, none] S2 = .nx [some (.ref b), some (.int m), some (.int v), none, none] (S2.set b (.lst [.lst (ns.map D.int), .int (i + 1), .int 0, .int ((seed * 60383 + v % 2147482817 * 7577 + 61) % 2147483587)])) :=
        wr (k := 3) (by omega) rfl hS2 w3
      rw [evSs_cons, w3', seq_nx, evSs_nil, seq_nx, evSs_nil]
      exact ⟨_, _, rfl, ⟨ns, i + 1, 0, _, gset hb2, by omega, by omega, Int.emod_nonneg _ (by decide), Int.emod_lt_of_pos _ (by decide)⟩, _, by rw [← hS2e, List.set_set]⟩
  · rw [Bool.eq_false_iff.mpr z]
    simp only [Bool.false_eq_true, if_false, evSs_nil]
    exact ⟨_, S, rfl, .refl hbag⟩
theorem pull_run {S : Sto} {b : Nat} {m : Int} {ps : List Nat} (h : Bag S b) (hm : 0 < m) (hm2 : m < 1073741824) : ∃ r S', FD.run X ⟨ps, 5, [], B_pull⟩ [.ref b, .int m] rs S = .ok (.int r) S' ∧ 0 ≤ r ∧ r < m ∧ Drew S S' b := by
  obtain ⟨x, S1, e1, d1⟩ := pull_in (X := X) (rs := rs) (m := m) h
  obtain ⟨⟨ns, i, big, seed, hS, hi, hbg, hs, hs2⟩, c1, hc1⟩ := d1
  have hb := (List.getElem?_eq_some_iff.mp hS).1
  have d1 : Drew S S1 b := ⟨⟨ns, i, big, seed, hS, hi, hbg, hs, hs2⟩, c1, hc1⟩
  unfold bagC at hS
  unfold FD.run
  show ∃ r S', (evSs X rs B_pull [some (.ref b), some (.int m), none, none, none] S).out = _ ∧ _
  rw [show B_pull = B_pull.headD .pas :: B_pull.tail from rfl, evSs_cons, e1, seq_nx]
  simp only [B_pull, List.tail_cons]
  rw [evSs_cons]
  have c2 : ev X rs (.cmp .gt (.idx (.slot 0) (.cst (.int 2))) (.cst (.int 0))) [some (.ref b), some (.int m), x, none, none] S1 = .ok (.bl (decide (0 < big))) S1 := by
    have r2 := rd2 (X := X) (rs := rs) (F := [some (.ref b), some (.int m), x, none, none]) rfl hS
    show (ev X rs (.idx (.slot 0) (.cst (.int 2))) _ S1).bind _ = _
    rw [r2, bind_ok]
    rfl
  rw [cond_ev c2]
  by_cases hb0 : 0 < big
  · rw [decide_eq_true hb0]
    simp only [if_true]
    have e3 : ev X rs (.bin .mod (.bcall false .int [.idx (.slot 0) (.cst (.int 2))]) (.slot 1)) [some (.ref b), some (.int m), x, none, none] S1 = .ok (.int (big % m)) S1 := by
      have r2 := rd2 (X := X) (rs := rs) (F := [some (.ref b), some (.int m), x, none, none]) rfl hS
      have : evL X rs [.idx (.slot 0) (.cst (.int 2))] [some (.ref b), some (.int m), x, none, none] S1 = .ok [.int big] S1 := by
        unfold evL
        rw [r2, bind_ok]
        rfl
      show ((evL X rs [.idx (.slot 0) (.cst (.int 2))] _ S1).bind _).bind _ = _
      rw [this, bind_ok, intV, bind_ok]
      show (ev X rs (.slot 1) _ S1).bind _ = _
      rw [show ev X rs (.slot 1) [some (.ref b), some (.int m), x, none, none] S1 = .ok (.int m) S1 from by simp [ev], bind_ok, modV hm]
    rw [evSs_cons, set_ev e3, seq_nx, evSs_cons]
    have e4 : ev X rs (.bin .fdiv (.idx (.slot 0) (.cst (.int 2))) (.slot 1)) [some (.ref b), some (.int m), x, some (.int (big % m)), none] S1 = .ok (.int (big / m)) S1 := by
      have r2 := rd2 (X := X) (rs := rs) (F := [some (.ref b), some (.int m), x, some (.int (big % m)), none]) rfl hS
      show (ev X rs (.idx (.slot 0) (.cst (.int 2))) _ S1).bind _ = _
      rw [r2, bind_ok, show ev X rs (.slot 1) [some (.ref b), some (.int m), x, some (.int (big % m)), none] S1 = .ok (.int m) S1 from by simp [ev], bind_ok, fdivV hm hm2]
    have w4 : evS X rs (.sub (.slot 0) (.cst (.int 2)) (.bin .fdiv (.idx (.slot 0) (.cst (.int 2))) (.slot 1))) [some (.ref b), some (.int m), x, some (.int (big % m)), none] S1 = .nx [some (.ref b), some (.int m), x, some (.int (big % m)), none] (S1.set b (.lst [.lst (ns.map D.int), .int i, .int (big / m), .int seed])) := wr (k := 2) (by omega) rfl hS e4
    show ∃ r S', (((evS X rs _ [some (.ref b), some (.int m), x, some (.int (big % m)), none] S1).seq _).seq _).out = _ ∧ _
    rw [w4, seq_nx, evSs_cons, ret_ev (d := .int (big % m)) (S1 := S1.set b (.lst [.lst (ns.map D.int), .int i, .int (big / m), .int seed])) (by simp [ev])]
    refine ⟨big % m, _, rfl, Int.emod_nonneg _ (by omega), Int.emod_lt_of_pos _ hm, d1.trans ⟨⟨ns, i, big / m, seed, gset hb, hi, Int.ediv_nonneg (by omega) (by omega), hs, hs2⟩, _, rfl⟩⟩
  · rw [decide_eq_false hb0]
    simp only [Bool.false_eq_true, if_false, evSs_nil, seq_nx]
    rw [evSs_cons, set_ev (rd3 rfl hS), seq_nx, evSs_cons]
    show ∃ r S', ((evS X rs _ [some (.ref b), some (.int m), x, none, some (.int seed)] S1).seq _).out = _ ∧ _
    have e5 : ev X rs (.bin .mod (.bcall false .int [.bin .add (.bin .add (.bin .mul (.slot 4) (.slot 4)) (.bin .mul (.slot 4) (.cst (.int 27793)))) (.cst (.int 1302017))]) (.cst (.int 2147483587))) [some (.ref b), some (.int m), x, none, some (.int seed)] S1 = .ok (.int ((seed * seed + seed * 27793 + 1302017) % 2147483587)) S1 := by
      simp only [ev, evL, List.getElem?_cons_succ, List.getElem?_cons_zero, bind_ok]
      rw [mulV (fits_l (by omega) (by omega)), bind_ok, mulV (fits_r (by decide) (by decide))]
      simp only [bind_ok, addV, intV]
      rw [modV (by decide)]
    have w5 : evS X rs (.sub (.slot 0) (.cst (.int 3)) (.bin .mod (.bcall false .int [.bin .add (.bin .add (.bin .mul (.slot 4) (.slot 4)) (.bin .mul (.slot 4) (.cst (.int 27793)))) (.cst (.int 1302017))]) (.cst (.int 2147483587)))) [some (.ref b), some (.int m), x, none, some (.int seed)] S1 = .nx [some (.ref b), some (.int m), x, none, some (.int seed)] (S1.set b (.lst [.lst (ns.map D.int), .int i, .int big, .int ((seed * seed + seed * 27793 + 1302017) % 2147483587)])) := wr (k := 3) (by omega) rfl hS e5
    rw [w5, seq_nx, evSs_cons]
    have hS2 : (S1.set b (.lst [.lst (ns.map D.int), .int i, .int big, .int ((seed * seed + seed * 27793 + 1302017) % 2147483587)]))[b]? = some (.lst [.lst (ns.map D.int), .int i, .int big, .int ((seed * seed + seed * 27793 + 1302017) % 2147483587)]) := gset hb
    have d2 : Drew S1 (S1.set b (.lst [.lst (ns.map D.int), .int i, .int big, .int ((seed * seed + seed * 27793 + 1302017) % 2147483587)])) b := ⟨⟨ns, i, big, _, gset hb, hi, hbg, Int.emod_nonneg _ (by decide), Int.emod_lt_of_pos _ (by decide)⟩, _, rfl⟩
    generalize S1.set b (.lst [.lst (ns.map D.int), .int i, .int big, .int ((seed * seed + seed * 27793 + 1302017) % 2147483587)]) = S2 at hS2 d2 ⊢
    generalize (seed * seed + seed * 27793 + 1302017) % 2147483587 = sd at hS2
    have e6 : ev X rs (.bin .mod (.bcall false .int [.bin .add (.bin .fdiv (.idx (.slot 0) (.cst (.int 3))) (.cst (.int 73))) (.bin .mul (.bin .mod (.bcall false .int [.idx (.slot 0) (.cst (.int 3))]) (.cst (.int 7927))) (.cst (.int 53)))]) (.slot 1)) [some (.ref b), some (.int m), x, none, some (.int seed)] S2 = .ok (.int ((sd / 73 + sd % 7927 * 53) % m)) S2 := by
      have r3 := rd3 (X := X) (rs := rs) (F := [some (.ref b), some (.int m), x, none, some (.int seed)]) rfl hS2
      simp only [ev, evL, List.getElem?_cons_succ, List.getElem?_cons_zero, bind_ok] at r3 ⊢
      rw [r3, bind_ok, fdivV (by decide) (by decide)]
      simp only [bind_ok]
      rw [r3]
      simp only [bind_ok, intV]
      rw [modV (by decide)]
      simp only [bind_ok]
      rw [mulV (fits_r (by decide) (by decide))]
      simp only [bind_ok, addV, intV]
      rw [modV hm]
    rw [ret_ev e6]
    exact ⟨_, _, rfl, Int.emod_nonneg _ (by omega), Int.emod_lt_of_pos _ hm, d1.trans d2⟩
end
end OM
set_option Elab.async false
set_option linter.all false
set_option maxRecDepth 100000
set_option maxHeartbeats 1000000
/-! OmMath2: calls, turns; drawing an item; comparing. -/
namespace OM

/-! ### calls -/
theorem bindA_pos {α : Type} : ∀ {ps : List Nat} {vs : List α}, vs.length = ps.length → bindA [] ps vs [] [] = some vs
  | [], [], _ => by simp [bindA]
  | p :: ps, v :: vs, h => by
    unfold bindA
    rw [bindA_pos (by simpa using h)]
    rfl
  | [], _ :: _, h => by cases h
  | _ :: _, [], h => by cases h
theorem end_ok {S S' : Sto} {d : D} (hd : d.lo S.length = true) (hl : S'.length = S.length) : endCall S (.ok d S') = .ok d S' := by
  have e : frz1 S' S.length d = some d := by
    cases d with
    | ref n =>
      unfold D.lo at hd
      exact if_pos (of_decide_eq_true hd)
    | _ => exact if_pos (e := none) hd
  unfold endCall
  simp only [e]
  rw [List.take_of_length_le (by omega)]
section
variable {X : Cxt} {rs : List Nat} {F : Fr} {S S1 : Sto}
theorem ev_call {f : Nat} {as : List CE} {vs : List D} {ps : List Nat} (ha : evL X rs as F S = .ok vs S1) (hp : X.pars f = some (ps, [])) (hl : vs.length = ps.length) : ev X rs (.call false f as [] []) F S = endCall S1 (X.call f vs (S1.length :: rs) S1) := by
  simp only [ev, evL, ha, Out.bind, hp, bindA_pos hl, Bool.false_eq_true, if_false]
theorem ev_callK {f : Nat} {as : List CE} {vs : List D} {ps : List Nat} (ha : evL X rs as F S = .ok vs S1) (hp : X.pars f = some (ps, [])) (hl : vs.length = ps.length) : ev X rs (.call true f as [] []) F S = X.call f vs rs S1 := by
  simp only [ev, evL, ha, Out.bind, hp, bindA_pos hl, if_true]
theorem evL_nil : evL X rs [] F S = .ok [] S := by simp only [evL]
theorem evL_cons {a : CE} {as : List CE} {x : D} {xs : List D} {S2 : Sto} (h1 : ev X rs a F S = .ok x S1) (h2 : evL X rs as F S1 = .ok xs S2) : evL X rs (a :: as) F S = .ok (x :: xs) S2 := by
  simp only [evL, h1, Out.bind, h2]
theorem ev_slot {i : Nat} {d : D} (h : F[i]? = some (some d)) : ev X rs (.slot i) F S = .ok d S := by simp only [ev, h]
theorem ev_cst {d : D} : ev X rs (.cst d) F S = .ok d S := by simp only [ev]
theorem ev_glo {g : Nat} {d : D} (h : X.glob g = some d) : ev X rs (.glo g) F S = .ok d S := by simp only [ev, h]
theorem ev_bin {o : BinO} {a b : CE} {x y : D} {S2 : Sto} (h1 : ev X rs a F S = .ok x S1) (h2 : ev X rs b F S1 = .ok y S2) : ev X rs (.bin o a b) F S = vBin o x y S2 := by simp only [ev, h1, h2, Out.bind]
theorem ev_cmp {o : CmpO} {a b : CE} {x y : D} {S2 : Sto} (h1 : ev X rs a F S = .ok x S1) (h2 : ev X rs b F S1 = .ok y S2) : ev X rs (.cmp o a b) F S = vCmp o x y S2 := by simp only [ev, h1, h2, Out.bind]
theorem ev_bcall {mu : Bool} {b : Bi} {as : List CE} {xs : List D} (h : evL X rs as F S = .ok xs S1) : ev X rs (.bcall mu b as) F S = vBi mu b xs S1 := by simp only [ev, h, Out.bind]
theorem ev_bcall1 {mu : Bool} {b : Bi} {a : CE} {x : D} (h : ev X rs a F S = .ok x S1) : ev X rs (.bcall mu b [a]) F S = vBi mu b [x] S1 := by simp only [ev, evL, h, Out.bind]
theorem ev_idx {a b : CE} {x y : D} {S2 : Sto} (h1 : ev X rs a F S = .ok x S1) (h2 : ev X rs b F S1 = .ok y S2) : ev X rs (.idx a b) F S = vIdx x y S2 := by simp only [ev, h1, h2, Out.bind]
theorem ev_not {a : CE} {x : D} {b : Bool} (h1 : ev X rs a F S = .ok x S1) (h2 : truth S1 x = some b) : ev X rs (.not a) F S = .ok (.bl (!b)) S1 := by simp only [ev, h1, Out.bind, h2]
theorem ev_lst {mu : Bool} {as : List CE} {xs : List D} (h : evL X rs as F S = .ok xs S1) : ev X rs (.lst mu as) F S = mkList mu xs S1 := by simp only [ev, h, Out.bind]
theorem ev_tup {as : List CE} {xs : List D} (h : evL X rs as F S = .ok xs S1) : ev X rs (.tup as) F S = okIf (decide (xs.length ≤ line)) (.tup xs) S1 := by simp only [ev, h, Out.bind]
theorem ev_and {a b : CE} {r : List CE} {c : Bool} (h1 : ev X rs a F S = .ok (.bl c) S1) : ev X rs (.bop true (a :: b :: r)) F S = if c then ev X rs (.bop true (b :: r)) F S1 else .ok (.bl false) S1 := by
  simp only [ev, evB, h1, Out.bind, truth]
  cases c <;> rfl
theorem ev_or {a b : CE} {r : List CE} {c : Bool} (h1 : ev X rs a F S = .ok (.bl c) S1) : ev X rs (.bop false (a :: b :: r)) F S = if c then .ok (.bl true) S1 else ev X rs (.bop false (b :: r)) F S1 := by
  simp only [ev, evB, h1, Out.bind, truth]
  cases c <;> rfl
theorem ev_bop1 {k : Bool} {a : CE} : ev X rs (.bop k [a]) F S = ev X rs a F S := by simp only [ev, evB]
theorem ev_isin {a : CE} {ts : List CE} {x : D} {zs : List D} {b : Bool} {S2 : Sto} (h1 : ev X rs a F S = .ok x S1) (h2 : evL X rs ts F S1 = .ok zs S2) (h3 : isInst S2 x zs = some b) : ev X rs (.isin a ts) F S = .ok (.bl b) S2 := by
  simp only [ev, h1, h2, Out.bind, h3]
end
theorem cxt_pars {fs : List FD} {gl : Nat → Option D} {k f : Nat} {G : FD} (h : fs[f]? = some G) : (cxt fs gl k).pars f = some (G.ps, G.dv) := by
  show (fs[f]?).map _ = _
  rw [h]
  rfl
theorem callD_succ {fs : List FD} {gl : Nat → Option D} {k f : Nat} {G : FD} {vs : List D} {rs : List Nat} {S : Sto} (h : fs[f]? = some G) : callD fs gl (k + 1) f vs rs S = G.run (cxt fs gl k) vs rs S := by
  conv => lhs; unfold callD
  rw [h]
  rfl

/-! ### turns -/
theorem turns_ind {f : D → Sto → Out (List D)} {l : List D} (P : Nat → List D → Sto → Prop) (step : ∀ i d ys S, l[i]? = some d → P i ys S → ∃ zs S', f d S = .ok zs S' ∧ P (i + 1) (ys ++ zs) S') :
    ∀ (m i : Nat) (ys : List D) (S : Sto), i + m = l.length → P i ys S → ∃ zs S', turns f (.items l) m i ys S = .ok zs S' ∧ P l.length zs S'
  | 0, i, ys, S, h, p => by
    have e : l[i]? = none := List.getElem?_eq_none_iff.mpr (by omega)
    refine ⟨ys, S, ?_, by rw [← h]; exact p⟩
    simp only [turns, srcAt, e]
  | m + 1, i, ys, S, h, p => by
    have hi : i < l.length := by omega
    obtain ⟨zs, S', e1, p'⟩ := step i l[i] ys S (List.getElem?_eq_getElem hi) p
    obtain ⟨ws, S'', e2, p''⟩ := turns_ind P step m (i + 1) (ys ++ zs) S' (by omega) p'
    refine ⟨ws, S'', ?_, p''⟩
    simp only [turns, srcAt, List.getElem?_eq_getElem hi, e1, nox, Out.bind]
    exact e2
/-- turns that leave the store as it is -/
theorem turns_map {f : D → Sto → Out (List D)} {S : Sto} {g : D → List D} : ∀ (l pre : List D) (ys : List D), (∀ d ∈ l, f d S = .ok (g d) S) → turns f (.items (pre ++ l)) l.length pre.length ys S = .ok (ys ++ l.flatMap g) S
  | [], pre, ys, _ => by simp [turns, srcAt]
  | d :: l, pre, ys, h => by
    have e : (pre ++ d :: l)[pre.length]? = some d := by simp
    simp only [List.length_cons, turns, srcAt, e, h d List.mem_cons_self, nox, Out.bind]
    have := turns_map (f := f) (g := g) l (pre ++ [d]) (ys ++ g d) (fun x hx => h x (List.mem_cons_of_mem _ hx))
    rw [List.append_assoc, List.length_append] at this
    simp only [List.singleton_append, List.length_singleton] at this
    rw [this]
    simp [List.append_assoc]
theorem turns_pure {f : D → Sto → Out (List D)} {S : Sto} {g : D → List D} {l : List D} (h : ∀ d ∈ l, f d S = .ok (g d) S) : turns f (.items l) l.length 0 [] S = .ok (l.flatMap g) S := by
  have := turns_map l [] [] h
  simpa using this
theorem turnsS_ind {f : D → Fr → Sto → OS} {l : List D} (P : Nat → Fr → Sto → Prop) (step : ∀ i d F S, l[i]? = some d → P i F S → ∃ F' S', f d F S = .nx F' S' ∧ P (i + 1) F' S') :
    ∀ (m i : Nat) (F : Fr) (S : Sto), i + m = l.length → P i F S → ∃ F' S', turnsS f (.items l) m i F S = .nx F' S' ∧ P l.length F' S'
  | 0, i, F, S, h, p => by
    have e : l[i]? = none := List.getElem?_eq_none_iff.mpr (by omega)
    refine ⟨F, S, ?_, by rw [← h]; exact p⟩
    simp only [turnsS, srcAt, e]
  | m + 1, i, F, S, h, p => by
    have hi : i < l.length := by omega
    obtain ⟨F', S', e1, p'⟩ := step i l[i] F S (List.getElem?_eq_getElem hi) p
    obtain ⟨F'', S'', e2, p''⟩ := turnsS_ind P step m (i + 1) F' S' (by omega) p'
    refine ⟨F'', S'', ?_, p''⟩
    simp only [turnsS, srcAt, List.getElem?_eq_getElem hi, e1]
    exact e2
theorem comp_ev {X : Cxt} {rs : List Nat} {mu : Bool} {e : CE} {t : Tgt} {it : IT} {ifs : List CE} {F : Fr} {S S1 S2 : Sto} {l zs : List D} (hi : evI X rs it F S = .ok (.items l) S1) (ht : turns (turnF X rs e t ifs (wipeF F t.slots)) (.items l) l.length 0 [] S1 = .ok zs S2) : ev X rs (.comp mu e [.mk t it ifs]) F S = mkList mu zs S2 := by
  rw [ev_comp1, hi, bind_ok]
  show (turns _ (.items l) l.length 0 [] S1).bind _ = _
  rw [ht, bind_ok]
theorem turnF_no {X : Cxt} {rs : List Nat} {e : CE} {t : Tgt} {Fw F2 : Fr} {d v : D} {S S' : Sto} (hb : bindT t d Fw = some F2) (he : ev X rs e F2 S = .ok v S') : turnF X rs e t [] Fw d S = .ok [v] S' := by
  unfold turnF
  rw [hb]
  simp only [evT, Out.bind, if_true, evG, he]

/-! ### drawing -/
section
variable {fs : List FD} {gl : Nat → Option D} {k P : Nat} {pp : List Nat} {rs : List Nat} {S : Sto} {b : Nat}
theorem pull_call (hP : fs[P]? = some ⟨pp, 5, [], B_pull⟩) {m : Int} (h : Bag S b) (hm : 0 < m) (hm2 : m < 1073741824) : ∃ r S', endCall S ((cxt fs gl (k + 1)).call P [.ref b, .int m] (S.length :: rs) S) = .ok (.int r) S' ∧ 0 ≤ r ∧ r < m ∧ Drew S S' b := by
  obtain ⟨r, S', e, h1, h2, h3⟩ := pull_run (X := cxt fs gl k) (rs := S.length :: rs) (ps := pp) h hm hm2
  refine ⟨r, S', ?_, h1, h2, h3⟩
  show endCall S (callD fs gl (k + 1) P _ _ S) = _
  rw [callD_succ hP, e]
  exact end_ok rfl h3.len
theorem pull_ev (hP : fs[P]? = some ⟨pp, 5, [], B_pull⟩) (hl : pp.length = 2) {F : Fr} {S0 : Sto} {as : List CE} {m : Int} (ha : evL (cxt fs gl (k + 1)) rs as F S0 = .ok [.ref b, .int m] S) (h : Bag S b) (hm : 0 < m) (hm2 : m < 1073741824) : ∃ r S', ev (cxt fs gl (k + 1)) rs (.call false P as [] []) F S0 = .ok (.int r) S' ∧ 0 ≤ r ∧ r < m ∧ Drew S S' b := by
  rw [ev_call ha (cxt_pars hP) (by rw [hl]; rfl)]
  exact pull_call hP h hm hm2
def B_of (P : Nat) : List CS := [.ret (.idx (.slot 1) (.call false P [.slot 0, .bcall false .len [.slot 1]] [] []))]
theorem of_len (hP : fs[P]? = some ⟨pp, 5, [], B_pull⟩) (hl : pp.length = 2) {x : D} {n : Nat} {po : List Nat} (h : Bag S b) (hn : lenOf S x = some n) (h0 : 0 < n) (h1 : n < 1073741824) :
    ∃ (i : Nat) (S' : Sto), i < n ∧ Drew S S' b ∧ FD.run (cxt fs gl (k + 1)) ⟨po, 2, [], B_of P⟩ [.ref b, x] rs S = ((vIdx x (.int i) S').run [some (.ref b), some x] fun d S1 => .ret d S1).out := by
  have e1 : evL (cxt fs gl (k + 1)) rs [.slot 0, .bcall false .len [.slot 1]] [some (.ref b), some x] S = .ok [.ref b, .int (n : Int)] S := by
    refine evL_cons (ev_slot rfl) (evL_cons ?_ evL_nil)
    rw [ev_bcall1 (ev_slot (d := x) rfl)]
    simp only [vBi, vBi1, hn]
  obtain ⟨r, S', e2, r1, r2, dr⟩ := pull_ev (k := k) (gl := gl) (rs := rs) hP hl e1 h (by omega) (by omega)
  refine ⟨r.toNat, S', by omega, dr, ?_⟩
  have er : ((r.toNat : Nat) : Int) = r := by omega
  rw [er]
  unfold FD.run
  show (evSs _ rs (B_of P) [some (.ref b), some x] S).out = _
  unfold B_of
  rw [evSs_cons]
  simp only [evS]
  rw [show ev (cxt fs gl (k + 1)) rs (.idx (.slot 1) (.call false P [.slot 0, .bcall false .len [.slot 1]] [] [])) [some (.ref b), some x] S = vIdx x (.int r) S' from ev_idx (ev_slot rfl) e2]
  cases vIdx x (.int r) S' <;> rfl
theorem of_str {po : List Nat} {O : Nat} (hO : fs[O]? = some ⟨po, 2, [], B_of P⟩) (hP : fs[P]? = some ⟨pp, 5, [], B_pull⟩) (hl : pp.length = 2) (ho : po.length = 2) {s : List Nat} (h : Bag S b) (h0 : 0 < s.length) (h1 : s.length < 1073741824) {F : Fr} {S0 : Sto} {as : List CE} (ha : evL (cxt fs gl (k + 2)) rs as F S0 = .ok [.ref b, .str s] S) :
    ∃ c S', c ∈ s ∧ Drew S S' b ∧ ev (cxt fs gl (k + 2)) rs (.call false O as [] []) F S0 = .ok (.str [c]) S' := by
  obtain ⟨i, S', hi, dr, e⟩ := of_len (k := k) (gl := gl) (rs := S.length :: rs) (po := po) hP hl h (x := .str s) (n := s.length) rfl h0 h1
  refine ⟨s[i], S', List.getElem_mem hi, dr, ?_⟩
  rw [ev_call ha (cxt_pars hO) (by rw [ho]; rfl)]
  show endCall S (callD fs gl (k + 1 + 1) O _ _ S) = _
  rw [callD_succ hO, e]
  have p : place (i : Int) s.length = some i := by
    unfold place
    rw [if_pos (by omega), if_pos (by omega)]
    rfl
  simp only [vIdx, p, List.getElem?_eq_getElem hi, Out.run, OS.out]
  exact end_ok rfl dr.len
theorem of_lst {po : List Nat} {O : Nat} (hO : fs[O]? = some ⟨po, 2, [], B_of P⟩) (hP : fs[P]? = some ⟨pp, 5, [], B_pull⟩) (hl : pp.length = 2) (ho : po.length = 2) {s : List D} (h : Bag S b) (h0 : 0 < s.length) (h1 : s.length < 1073741824) (hlo : ∀ d ∈ s, ∀ m, d.lo m = true) {F : Fr} {S0 : Sto} {as : List CE} (ha : evL (cxt fs gl (k + 2)) rs as F S0 = .ok [.ref b, .lst s] S) :
    ∃ c S', c ∈ s ∧ Drew S S' b ∧ ev (cxt fs gl (k + 2)) rs (.call false O as [] []) F S0 = .ok c S' := by
  obtain ⟨i, S', hi, dr, e⟩ := of_len (k := k) (gl := gl) (rs := S.length :: rs) (po := po) hP hl h (x := .lst s) (n := s.length) rfl h0 h1
  refine ⟨s[i], S', List.getElem_mem hi, dr, ?_⟩
  rw [ev_call ha (cxt_pars hO) (by rw [ho]; rfl)]
  show endCall S (callD fs gl (k + 1 + 1) O _ _ S) = _
  rw [callD_succ hO, e]
  have p : place (i : Int) s.length = some i := by
    unfold place
    rw [if_pos (by omega), if_pos (by omega)]
    rfl
  simp only [vIdx, seqOf, p, List.getElem?_eq_getElem hi, Out.run, OS.out]
  exact end_ok (hlo _ (List.getElem_mem hi) _) dr.len
end

/-! ### comparing -/
def B_same (Sm : Nat) : List CS := [
  .cond (.isin (.slot 1) [.cst (.ty 5), .cst (.ty 4)]) [
    .cond (.bop false [.cmp .ne (.isin (.slot 0) [.cst (.ty 5)]) (.isin (.slot 1) [.cst (.ty 5)]), .cmp .ne (.isin (.slot 0) [.cst (.ty 4)]) (.isin (.slot 1) [.cst (.ty 4)])]) [
      .ret (.cst (.bl false))] [],
    .ret (.bop true [.cmp .eq (.bcall false .len [.slot 0]) (.bcall false .len [.slot 1]), .bcall false .all [.comp false (.call false Sm [.slot 2, .slot 3] [] []) [.mk (.tup [2, 3]) (.zip (.slot 0) (.slot 1)) []]]])] [],
  .cond (.bop false [.cmp .is (.slot 1) (.cst (.non)), .cmp .is (.slot 0) (.cst (.non))]) [
    .ret (.bop true [.cmp .is (.slot 1) (.cst (.non)), .cmp .is (.slot 0) (.cst (.non))])] [],
  .cond (.bop false [.cmp .ne (.isin (.slot 0) [.cst (.ty 1)]) (.isin (.slot 1) [.cst (.ty 1)]), .cmp .ne (.isin (.slot 0) [.cst (.ty 2)]) (.isin (.slot 1) [.cst (.ty 2)])]) [
    .ret (.cst (.bl false))] [],
  .ret (.bop true [.cmp .eq (.isin (.slot 0) [.cst (.ty 3)]) (.isin (.slot 1) [.cst (.ty 3)]), .cmp .eq (.slot 0) (.slot 1)])]
def kD : D → Nat
  | .non => 0
  | .bl _ => 1
  | .int _ => 2
  | .str _ => 3
  | .tup _ => 4
  | .lst _ => 5
  | _ => 9
mutual
def sameD (f : D) : D → Bool
  | .lst ys => (match f with
    | .lst xs => decide (xs.length = ys.length) && sameL xs ys
    | _ => false)
  | .tup ys => (match f with
    | .tup xs => decide (xs.length = ys.length) && sameL xs ys
    | _ => false)
  | d => if isNon d || isNon f then isNon d && isNon f else if (kindIn (kD f) 1 != kindIn (kD d) 1) || (kindIn (kD f) 2 != kindIn (kD d) 2) then false else (kD f == 3) == (kD d == 3) && D.eqv f d
def sameL (xs : List D) : List D → Bool
  | [] => true
  | y :: ys => (match xs with
    | x :: xs => sameD x y && sameL xs ys
    | [] => true)
end
theorem kind_plain {S : Sto} {d : D} (h : d.plain = true) : kindOf S d = some (kD d) := by
  cases d <;> first | rfl | cases h
section
variable {X : Cxt} {rs : List Nat} {F : Fr} {S : Sto}
theorem isin1 {i t : Nat} {d : D} (hF : F[i]? = some (some d)) (h : d.plain = true) (ht : t < 7) : ev X rs (.isin (.slot i) [.cst (.ty t)]) F S = .ok (.bl (kindIn (kD d) t)) S :=
  ev_isin (ev_slot hF) (evL_cons ev_cst evL_nil) (by simp [isInst, kind_plain h, ht])
theorem isin2 {i t u : Nat} {d : D} (hF : F[i]? = some (some d)) (h : d.plain = true) (ht : t < 7) (hu : u < 7) : ev X rs (.isin (.slot i) [.cst (.ty t), .cst (.ty u)]) F S = .ok (.bl (kindIn (kD d) t || kindIn (kD d) u)) S :=
  ev_isin (ev_slot hF) (evL_cons ev_cst (evL_cons ev_cst evL_nil)) (by simp [isInst, kind_plain h, ht, hu])
theorem cmp_bl {o : CmpO} {a b : CE} {x y : Bool} (ho : o = .eq ∨ o = .ne) (h1 : ev X rs a F S = .ok (.bl x) S) (h2 : ev X rs b F S = .ok (.bl y) S) : ev X rs (.cmp o a b) F S = .ok (.bl (if o = .eq then x == y else x != y)) S := by
  rw [ev_cmp h1 h2]
  rcases ho with rfl | rfl
  · simp [vCmp, vEq, datOf, D.plain, D.dep, D.eqv]
  · simp [vCmp, vEq, datOf, D.plain, D.dep, D.eqv, bne]
theorem is_non {i : Nat} {d : D} (hF : F[i]? = some (some d)) : ev X rs (.cmp .is (.slot i) (.cst (.non))) F S = .ok (.bl (isNon d)) S := by
  rw [ev_cmp (ev_slot hF) ev_cst]
  rfl
theorem or2 {a b : CE} {x y : Bool} (h1 : ev X rs a F S = .ok (.bl x) S) (h2 : ev X rs b F S = .ok (.bl y) S) : ev X rs (.bop false [a, b]) F S = .ok (.bl (x || y)) S := by
  rw [ev_or h1, ev_bop1, h2]
  cases x <;> rfl
theorem and2 {a b : CE} {x y : Bool} (h1 : ev X rs a F S = .ok (.bl x) S) (h2 : ev X rs b F S = .ok (.bl y) S) : ev X rs (.bop true [a, b]) F S = .ok (.bl (x && y)) S := by
  rw [ev_and h1, ev_bop1, h2]
  cases x <;> rfl
end
mutual
/-- lists and tuples within the model's line -/
def D.fit : D → Bool
  | .tup xs => decide (xs.length ≤ line) && fitL xs
  | .lst xs => decide (xs.length ≤ line) && fitL xs
  | _ => true
def fitL : List D → Bool
  | [] => true
  | d :: ds => D.fit d && fitL ds
end
theorem plainL_mem : ∀ {ds : List D} {d : D}, plainL ds = true → d ∈ ds → d.plain = true
  | e :: ds, d, h, m => by
    unfold plainL at h
    rw [Bool.and_eq_true] at h
    rcases List.mem_cons.mp m with rfl | m
    · exact h.1
    · exact plainL_mem h.2 m
theorem fitL_mem : ∀ {ds : List D} {d : D}, fitL ds = true → d ∈ ds → d.fit = true
  | e :: ds, d, h, m => by
    unfold fitL at h
    rw [Bool.and_eq_true] at h
    rcases List.mem_cons.mp m with rfl | m
    · exact h.1
    · exact fitL_mem h.2 m
theorem depL_mem : ∀ {ds : List D} {d : D}, d ∈ ds → D.dep d ≤ depL ds
  | e :: ds, d, m => by
    unfold depL
    rcases List.mem_cons.mp m with rfl | m
    · omega
    · have := depL_mem m
      omega
theorem zipD_mem : ∀ {xs ys : List D} {z : D}, z ∈ zipD xs ys → ∃ x y, x ∈ xs ∧ y ∈ ys ∧ z = .tup [x, y]
  | [], _, z, m => by simp [zipD] at m
  | _ :: _, [], z, m => by simp [zipD] at m
  | x :: xs, y :: ys, z, m => by
    unfold zipD at m
    rcases List.mem_cons.mp m with rfl | m
    · exact ⟨x, y, List.mem_cons_self, List.mem_cons_self, rfl⟩
    · obtain ⟨a, b, h1, h2, h3⟩ := zipD_mem m
      exact ⟨a, b, List.mem_cons_of_mem _ h1, List.mem_cons_of_mem _ h2, h3⟩
theorem zipD_len : ∀ (xs ys : List D), (zipD xs ys).length ≤ ys.length
  | [], _ => by simp [zipD]
  | _ :: _, [] => by simp [zipD]
  | x :: xs, y :: ys => by
    unfold zipD
    have := zipD_len xs ys
    simp only [List.length_cons]
    omega
def sameP : D → List D
  | .tup [x, y] => [.bl (sameD x y)]
  | _ => []
theorem sameP_bools : ∀ (xs ys : List D), bools ((zipD xs ys).flatMap sameP) = some ((zipD xs ys).flatMap fun z => match z with | .tup [x, y] => [sameD x y] | _ => [])
  | [], _ => by simp [zipD, bools]
  | _ :: _, [] => by simp [zipD, bools]
  | x :: xs, y :: ys => by
    unfold zipD
    simp only [List.flatMap_cons, sameP, List.singleton_append, bools]
    rw [sameP_bools xs ys]
    rfl
theorem sameP_all : ∀ (xs ys : List D), ((zipD xs ys).flatMap fun z => match z with | .tup [x, y] => [sameD x y] | _ => []).all id = sameL xs ys
  | [], [] => by simp [zipD, sameL]
  | [], _ :: _ => by simp [zipD, sameL]
  | _ :: _, [] => by simp [zipD, sameL]
  | x :: xs, y :: ys => by
    unfold zipD
    simp only [List.flatMap_cons, List.singleton_append, List.all_cons, id]
    rw [sameP_all xs ys]
    simp [sameL]
theorem sameP_len : ∀ (xs ys : List D), ((zipD xs ys).flatMap sameP).length = (zipD xs ys).length
  | [], _ => by simp [zipD]
  | _ :: _, [] => by simp [zipD]
  | x :: xs, y :: ys => by
    unfold zipD
    simp only [List.flatMap_cons, sameP, List.singleton_append, List.length_cons]
    rw [sameP_len xs ys]
section
variable {fs : List FD} {gl : Nat → Option D} {Sm : Nat} {po : List Nat}
theorem same_ok (hS : fs[Sm]? = some ⟨po, 4, [], B_same Sm⟩) (hpo : po.length = 2) : ∀ (k : Nat) (f d : D), f.plain = true → d.plain = true → d.fit = true → D.dep d < k → D.dep f ≤ 64 → D.dep d ≤ 64 → ∀ (rs : List Nat) (S : Sto), callD fs gl k Sm [f, d] rs S = .ok (.bl (sameD f d)) S
  | 0, f, d, pf, pd, hw, hk, hf, hd, rs, S => by omega
  | k + 1, f, d, pf, pd, hw, hk, hf, hd, rs, S => by
    rw [callD_succ hS]
    unfold FD.run
    show (evSs (cxt fs gl k) rs (B_same Sm) [some f, some d, none, none] S).out = _
    unfold B_same
    have i1 := isin2 (X := cxt fs gl k) (rs := rs) (F := [some f, some d, none, none]) (S := S) (i := 1) (t := 5) (u := 4) rfl pd (by omega) (by omega)
    -- lists and tuples
    have seqs : ∀ (c : Bool) (xs ys : List D), f = (if c then .lst xs else .tup xs) → d = (if c then .lst ys else .tup ys) →
        (evSs (cxt fs gl k) rs [.ret (.bop true [.cmp .eq (.bcall false .len [.slot 0]) (.bcall false .len [.slot 1]), .bcall false .all [.comp false (.call false Sm [.slot 2, .slot 3] [] []) [.mk (.tup [2, 3]) (.zip (.slot 0) (.slot 1)) []]]])] [some f, some d, none, none] S) = .ret (.bl (decide (xs.length = ys.length) && sameL xs ys)) S := by
      intro c xs ys ef ed
      have pxs : plainL xs = true := by cases c <;> (subst ef; simpa [D.plain] using pf)
      have pys : plainL ys = true := by cases c <;> (subst ed; simpa [D.plain] using pd)
      have fys : decide (ys.length ≤ line) = true ∧ fitL ys = true := by
        cases c <;> (subst ed; simpa [D.fit] using hw)
      have dys : depL ys < k := by cases c <;> (subst ed; simp [D.dep] at hk; omega)
      have dxs : depL xs ≤ 63 := by cases c <;> (subst ef; simp [D.dep] at hf; omega)
      have dys2 : depL ys ≤ 63 := by cases c <;> (subst ed; simp [D.dep] at hd; omega)
      have l0 : lenOf S f = some xs.length := by subst ef; cases c <;> rfl
      have l1 : lenOf S d = some ys.length := by subst ed; cases c <;> rfl
      have c1 : ev (cxt fs gl k) rs (.cmp .eq (.bcall false .len [.slot 0]) (.bcall false .len [.slot 1])) [some f, some d, none, none] S = .ok (.bl (decide (xs.length = ys.length))) S := by
        rw [ev_cmp (x := .int (xs.length : Int)) (y := .int (ys.length : Int)) (S1 := S) (S2 := S) (by rw [ev_bcall1 (ev_slot rfl)]; simp only [vBi, vBi1, l0]) (by rw [ev_bcall1 (ev_slot rfl)]; simp only [vBi, vBi1, l1])]
        simp [vCmp, vEq, datOf, D.plain, D.dep, D.eqv]
        rw [Bool.eq_iff_iff, beq_iff_eq, decide_eq_true_eq]
        omega
      have z1 : evI (cxt fs gl k) rs (.zip (.slot 0) (.slot 1)) [some f, some d, none, none] S = .ok (.items (zipD xs ys)) S := by
        subst ef; subst ed
        cases c <;> simp [evI, ev, Out.bind]
      have t1 : turns (turnF (cxt fs gl k) rs (.call false Sm [.slot 2, .slot 3] [] []) (.tup [2, 3]) [] (wipeF [some f, some d, none, none] (Tgt.tup [2, 3]).slots)) (.items (zipD xs ys)) (zipD xs ys).length 0 [] S = .ok ((zipD xs ys).flatMap sameP) S := by
        refine turns_pure fun z hz => ?_
        obtain ⟨x, y, hx, hy, rfl⟩ := zipD_mem hz
        refine turnF_no (F2 := [some f, some d, some x, some y]) rfl ?_
        rw [ev_call (ps := po) (evL_cons (ev_slot rfl) (evL_cons (ev_slot rfl) evL_nil)) (cxt_pars hS) (by rw [hpo]; rfl)]
        show endCall S (callD fs gl k Sm [x, y] _ S) = _
        have dx := depL_mem hx
        have dy := depL_mem hy
        rw [same_ok hS hpo k x y (plainL_mem pxs hx) (plainL_mem pys hy) (fitL_mem fys.2 hy) (by omega) (by omega) (by omega)]
        exact end_ok rfl rfl
      have c2 : ev (cxt fs gl k) rs (.bcall false .all [.comp false (.call false Sm [.slot 2, .slot 3] [] []) [.mk (.tup [2, 3]) (.zip (.slot 0) (.slot 1)) []]]) [some f, some d, none, none] S = .ok (.bl (sameL xs ys)) S := by
        have e := comp_ev (mu := false) z1 t1
        have hl : ((zipD xs ys).flatMap sameP).length ≤ line := by
          rw [sameP_len]
          exact Nat.le_trans (zipD_len xs ys) (of_decide_eq_true fys.1)
        simp only [mkList, if_pos hl, Bool.false_eq_true, if_false] at e
        rw [ev_bcall1 e]
        simp only [vBi, vBi1, lstOf, Option.bind, sameP_bools, sameP_all]
      rw [evSs_cons, ret_ev (and2 c1 c2), seq_ret]
    rw [evSs_cons, cond_ev i1]
    have in5 := isin1 (X := cxt fs gl k) (rs := rs) (F := [some f, some d, none, none]) (S := S) (i := 0) (t := 5) rfl pf (by omega)
    have in4 := isin1 (X := cxt fs gl k) (rs := rs) (F := [some f, some d, none, none]) (S := S) (i := 0) (t := 4) rfl pf (by omega)
    have jn5 := isin1 (X := cxt fs gl k) (rs := rs) (F := [some f, some d, none, none]) (S := S) (i := 1) (t := 5) rfl pd (by omega)
    have jn4 := isin1 (X := cxt fs gl k) (rs := rs) (F := [some f, some d, none, none]) (S := S) (i := 1) (t := 4) rfl pd (by omega)
    have o1 := or2 (cmp_bl (.inr rfl) in5 jn5) (cmp_bl (.inr rfl) in4 jn4)
    have flat : (kindIn (kD d) 5 || kindIn (kD d) 4) = false → (∀ ys, d ≠ .lst ys) → (∀ ys, d ≠ .tup ys) → ((if (kindIn (kD d) 5 || kindIn (kD d) 4) = true then evSs (cxt fs gl k) rs
              [.cond (.bop false [.cmp .ne (.isin (.slot 0) [.cst (.ty 5)]) (.isin (.slot 1) [.cst (.ty 5)]), .cmp .ne (.isin (.slot 0) [.cst (.ty 4)]) (.isin (.slot 1) [.cst (.ty 4)])]) [.ret (.cst (.bl false))] [],
                .ret (.bop true [.cmp .eq (.bcall false .len [.slot 0]) (.bcall false .len [.slot 1]), .bcall false .all [.comp false (.call false Sm [.slot 2, .slot 3] [] []) [.mk (.tup [2, 3]) (.zip (.slot 0) (.slot 1)) []]]])]
              [some f, some d, none, none] S
            else evSs (cxt fs gl k) rs [] [some f, some d, none, none] S).seq
          (evSs (cxt fs gl k) rs
            [.cond (.bop false [.cmp .is (.slot 1) (.cst (.non)), .cmp .is (.slot 0) (.cst (.non))]) [.ret (.bop true [.cmp .is (.slot 1) (.cst (.non)), .cmp .is (.slot 0) (.cst (.non))])] [],
              .cond (.bop false [.cmp .ne (.isin (.slot 0) [.cst (.ty 1)]) (.isin (.slot 1) [.cst (.ty 1)]), .cmp .ne (.isin (.slot 0) [.cst (.ty 2)]) (.isin (.slot 1) [.cst (.ty 2)])]) [.ret (.cst (.bl false))] [],
              .ret (.bop true [.cmp .eq (.isin (.slot 0) [.cst (.ty 3)]) (.isin (.slot 1) [.cst (.ty 3)]), .cmp .eq (.slot 0) (.slot 1)])])).out = .ok (.bl (if isNon d || isNon f then isNon d && isNon f else if (kindIn (kD f) 1 != kindIn (kD d) 1) || (kindIn (kD f) 2 != kindIn (kD d) 2) then false else (kindIn (kD f) 3 == kindIn (kD d) 3) && D.eqv f d)) S := by
      intro h0 _ _
      rw [h0]
      simp only [Bool.false_eq_true, if_false]
      rw [evSs_nil, seq_nx, evSs_cons]
      have n1 : ev (cxt fs gl k) rs (.cmp .is (.slot 1) (.cst (.non))) [some f, some d, none, none] S = .ok (.bl (isNon d)) S := is_non rfl
      have n0 : ev (cxt fs gl k) rs (.cmp .is (.slot 0) (.cst (.non))) [some f, some d, none, none] S = .ok (.bl (isNon f)) S := is_non rfl
      rw [cond_ev (or2 n1 n0)]
      by_cases hn : (isNon d || isNon f) = true
      · rw [hn]
        simp only [if_true]
        rw [evSs_cons, ret_ev (and2 n1 n0)]
        rfl
      · rw [Bool.eq_false_iff.mpr hn]
        simp only [Bool.false_eq_true, if_false]
        rw [evSs_nil, seq_nx, evSs_cons]
        have k11 := isin1 (X := cxt fs gl k) (rs := rs) (F := [some f, some d, none, none]) (S := S) (i := 0) (t := 1) rfl pf (by omega)
        have k12 := isin1 (X := cxt fs gl k) (rs := rs) (F := [some f, some d, none, none]) (S := S) (i := 0) (t := 2) rfl pf (by omega)
        have k13 := isin1 (X := cxt fs gl k) (rs := rs) (F := [some f, some d, none, none]) (S := S) (i := 0) (t := 3) rfl pf (by omega)
        have m11 := isin1 (X := cxt fs gl k) (rs := rs) (F := [some f, some d, none, none]) (S := S) (i := 1) (t := 1) rfl pd (by omega)
        have m12 := isin1 (X := cxt fs gl k) (rs := rs) (F := [some f, some d, none, none]) (S := S) (i := 1) (t := 2) rfl pd (by omega)
        have m13 := isin1 (X := cxt fs gl k) (rs := rs) (F := [some f, some d, none, none]) (S := S) (i := 1) (t := 3) rfl pd (by omega)
        rw [cond_ev (or2 (cmp_bl (.inr rfl) k11 m11) (cmp_bl (.inr rfl) k12 m12))]
        simp only [show (CmpO.ne = CmpO.eq) = False from by simp, if_false]
        by_cases hb : (kindIn (kD f) 1 != kindIn (kD d) 1 || kindIn (kD f) 2 != kindIn (kD d) 2) = true
        · rw [hb]
          simp only [if_true]
          rw [evSs_cons, ret_ev ev_cst]
          rfl
        · rw [Bool.eq_false_iff.mpr hb]
          simp only [Bool.false_eq_true, if_false]
          rw [evSs_nil, seq_nx, evSs_cons]
          have q1 := cmp_bl (.inl rfl) k13 m13
          have q2 : ev (cxt fs gl k) rs (.cmp .eq (.slot 0) (.slot 1)) [some f, some d, none, none] S = .ok (.bl (D.eqv f d)) S := by
            rw [ev_cmp (ev_slot rfl) (ev_slot rfl)]
            simp [vCmp, vEq, datOf, pf, pd, hf, hd]
          rw [ret_ev (and2 q1 q2)]
          rfl
    cases d with
    | lst ys =>
      simp only [kD, show (kindIn 5 5 || kindIn 5 4) = true from rfl, if_true]
      rw [evSs_cons, cond_ev o1]
      cases f with
      | lst xs =>
        simp only [kD, show (CmpO.ne = CmpO.eq) = False from by simp, if_false, bne_self_eq_false, Bool.or_self, Bool.false_eq_true]
        rw [evSs_nil, seq_nx, seqs true xs ys rfl rfl]
        simp only [seq_ret, OS.out, sameD]
      | non => rfl
      | bl b => rfl
      | int i => rfl
      | str x => rfl
      | tup xs => rfl
      | _ => cases pf
    | tup ys =>
      simp only [kD, show (kindIn 4 5 || kindIn 4 4) = true from rfl, if_true]
      rw [evSs_cons, cond_ev o1]
      cases f with
      | tup xs =>
        simp only [kD, show (CmpO.ne = CmpO.eq) = False from by simp, if_false, bne_self_eq_false, Bool.or_self, Bool.false_eq_true]
        rw [evSs_nil, seq_nx, seqs false xs ys rfl rfl]
        simp only [seq_ret, OS.out, sameD]
      | non => rfl
      | bl b => rfl
      | int i => rfl
      | str x => rfl
      | lst xs => rfl
      | _ => cases pf
    | non =>
      rw [flat rfl (by simp) (by simp)]
      simp only [sameD]
      cases f <;> first | rfl | cases pf
    | bl b =>
      rw [flat rfl (by simp) (by simp)]
      simp only [sameD]
      cases f <;> first | rfl | cases pf
    | int i =>
      rw [flat rfl (by simp) (by simp)]
      simp only [sameD]
      cases f <;> first | rfl | cases pf
    | str x =>
      rw [flat rfl (by simp) (by simp)]
      simp only [sameD]
      cases f <;> first | rfl | cases pf
    | _ => cases pd
theorem same_ev {F : Fr} {rs : List Nat} {S S0 : Sto} {as : List CE} {f d : D} {k : Nat} (hS : fs[Sm]? = some ⟨po, 4, [], B_same Sm⟩) (hpo : po.length = 2) (ha : evL (cxt fs gl k) rs as F S0 = .ok [f, d] S) (pf : f.plain = true) (pd : d.plain = true) (hw : d.fit = true) (hk : D.dep d < k) (hf : D.dep f ≤ 64) (hd : D.dep d ≤ 64) :
    ev (cxt fs gl k) rs (.call false Sm as [] []) F S0 = .ok (.bl (sameD f d)) S := by
  rw [ev_call ha (cxt_pars hS) (by rw [hpo]; rfl)]
  show endCall S (callD fs gl k Sm [f, d] _ S) = _
  rw [same_ok hS hpo k f d pf pd hw hk hf hd]
  exact end_ok rfl rfl
end
end OM
set_option Elab.async false
set_option linter.all false
set_option maxRecDepth 100000
set_option maxHeartbeats 0
namespace K01
open OM
def f_is_word : FD := ⟨[0], 2, [], [
  .cond (.bop false [.not (.isin (.slot 0) [.cst (.ty 3)]), .not (.chain .le .le (.cst (.int 1)) (.bcall false .len [.slot 0]) (.glo 6)), .cmp .inn (.slot 0) (.glo 7)]) [
    .ret (.cst (.bl false))] [],
  .ret (.bcall false .all [.comp false (.cmp .inn (.slot 1) (.cst (.str [97, 98, 99, 100, 101, 102, 103, 104, 105, 106, 107, 108, 109, 110, 111, 112, 113, 114, 115, 116, 117, 118, 119, 120, 121, 122]))) [.mk (.one 1) (.ov (.slot 0)) []]])]⟩
def f__law_bag : FD := ⟨[1], 1, [], [
  .ret (.lst true [.bcall false .list [.sli (.slot 0) [] [.cst (.int 63)]], .cst (.int 0), .cst (.int 0), .cst (.int 5633)])]⟩
def f__law_pull : FD := ⟨[2, 3], 5, [], [
  .cond (.bop true [.cmp .eq (.idx (.slot 0) (.cst (.int 2))) (.cst (.int 0)), .cmp .lt (.idx (.slot 0) (.cst (.int 1))) (.bcall false .len [.idx (.slot 0) (.cst (.int 0))])]) [
    .set 2 (.idx (.idx (.slot 0) (.cst (.int 0))) (.idx (.slot 0) (.cst (.int 1)))),
    .sub (.slot 0) (.cst (.int 1)) (.bin .add (.idx (.slot 0) (.cst (.int 1))) (.cst (.int 1))),
    .cond (.cmp .ge (.slot 2) (.bin .pow (.cst (.int 10)) (.cst (.int 18)))) [
      .sub (.slot 0) (.cst (.int 2)) (.slot 2)] [
      .sub (.slot 0) (.cst (.int 3)) (.bin .mod (.bcall false .int [.bin .add (.bin .add (.bin .mul (.idx (.slot 0) (.cst (.int 3))) (.cst (.int 60383))) (.bin .mul (.bin .mod (.bcall false .int [.slot 2]) (.cst (.int 2147482817))) (.cst (.int 7577)))) (.cst (.int 61))]) (.cst (.int 2147483587)))]] [],
  .cond (.cmp .gt (.idx (.slot 0) (.cst (.int 2))) (.cst (.int 0))) [
    .set 3 (.bin .mod (.bcall false .int [.idx (.slot 0) (.cst (.int 2))]) (.slot 1)),
    .sub (.slot 0) (.cst (.int 2)) (.bin .fdiv (.idx (.slot 0) (.cst (.int 2))) (.slot 1)),
    .ret (.slot 3)] [],
  .set 4 (.idx (.slot 0) (.cst (.int 3))),
  .sub (.slot 0) (.cst (.int 3)) (.bin .mod (.bcall false .int [.bin .add (.bin .add (.bin .mul (.slot 4) (.slot 4)) (.bin .mul (.slot 4) (.cst (.int 27793)))) (.cst (.int 1302017))]) (.cst (.int 2147483587))),
  .ret (.bin .mod (.bcall false .int [.bin .add (.bin .fdiv (.idx (.slot 0) (.cst (.int 3))) (.cst (.int 73))) (.bin .mul (.bin .mod (.bcall false .int [.idx (.slot 0) (.cst (.int 3))]) (.cst (.int 7927))) (.cst (.int 53)))]) (.slot 1))]⟩
def f__law_of : FD := ⟨[2, 4], 2, [], [
  .ret (.idx (.slot 1) (.call false 2 [.slot 0, .bcall false .len [.slot 1]] [] []))]⟩
def f__law_same : FD := ⟨[5, 6], 4, [], [
  .cond (.isin (.slot 1) [.cst (.ty 5), .cst (.ty 4)]) [
    .cond (.bop false [.cmp .ne (.isin (.slot 0) [.cst (.ty 5)]) (.isin (.slot 1) [.cst (.ty 5)]), .cmp .ne (.isin (.slot 0) [.cst (.ty 4)]) (.isin (.slot 1) [.cst (.ty 4)])]) [
      .ret (.cst (.bl false))] [],
    .ret (.bop true [.cmp .eq (.bcall false .len [.slot 0]) (.bcall false .len [.slot 1]), .bcall false .all [.comp false (.call false 4 [.slot 2, .slot 3] [] []) [.mk (.tup [2, 3]) (.zip (.slot 0) (.slot 1)) []]]])] [],
  .cond (.bop false [.cmp .is (.slot 1) (.cst (.non)), .cmp .is (.slot 0) (.cst (.non))]) [
    .ret (.bop true [.cmp .is (.slot 1) (.cst (.non)), .cmp .is (.slot 0) (.cst (.non))])] [],
  .cond (.bop false [.cmp .ne (.isin (.slot 0) [.cst (.ty 1)]) (.isin (.slot 1) [.cst (.ty 1)]), .cmp .ne (.isin (.slot 0) [.cst (.ty 2)]) (.isin (.slot 1) [.cst (.ty 2)])]) [
    .ret (.cst (.bl false))] [],
  .ret (.bop true [.cmp .eq (.isin (.slot 0) [.cst (.ty 3)]) (.isin (.slot 1) [.cst (.ty 3)]), .cmp .eq (.slot 0) (.slot 1)])]⟩
def f_law : FD := ⟨[1], 10, [], [
  .set 1 (.call true 1 [.slot 0] [] []),
  .loop (.one 2) (.rng1 (.cst (.int 8))) [
    .set 3 (.bmeth .join (.cst (.str [])) [.comp false (.call false 3 [.slot 1, .cst (.str [97, 98, 99, 100, 101, 102, 103, 104, 105, 106, 107, 108, 109, 110, 111, 112, 113, 114, 115, 116, 117, 118, 119, 120, 121, 122])] [] []) [.mk (.one 6) (.rng1 (.call false 2 [.slot 1, .cst (.int 11)] [] [])) []]]),
    .cond (.not (.call false 4 [.call false 0 [.slot 3] [] [], .bop true [.chain .le .le (.cst (.int 1)) (.bcall false .len [.slot 3]) (.cst (.int 8)), .cmp .nin (.slot 3) (.tup [.cst (.str [97, 108, 108]), .cst (.str [110, 111, 110, 101]), .cst (.str [115, 111, 109, 101]), .cst (.str [110, 111, 116]), .cst (.str [97, 110, 100]), .cst (.str [111, 114])])]] [] [])) [
      .ret (.cst (.bl false))] [],
    .par [4, 5] [.call false 2 [.slot 1, .bin .add (.bcall false .len [.slot 3]) (.cst (.int 1))] [] [], .call false 3 [.slot 1, .lst false [.cst (.str [65]), .cst (.str [90]), .cst (.str [48]), .cst (.str [57]), .cst (.str [32]), .cst (.str [95]), .cst (.str [45]), .cst (.str [126]), .cst (.str [40]), .cst (.str [10])]] [] []],
    .cond (.not (.call false 4 [.call false 0 [] [0] [.bin .add (.bin .add (.sli (.slot 3) [] [.slot 4]) (.slot 5)) (.sli (.slot 3) [.slot 4] [])], .cst (.bl false)] [] [])) [
      .ret (.cst (.bl false))] []],
  .set 7 (.lst false [.cst (.str []), .cst (.str [97, 108, 108]), .cst (.str [110, 111, 110, 101]), .cst (.str [115, 111, 109, 101]), .cst (.str [110, 111, 116]), .cst (.str [97, 110, 100]), .cst (.str [111, 114]), .cst (.non), .cst (.int 3), .cst (.bl true), .tup [.cst (.str [97])], .lst false [.cst (.str [97])], .cst (.str [97, 98, 99, 100, 101, 102, 103, 104, 105])]),
  .set 8 (.lst false [.cst (.str [97]), .cst (.str [122]), .cst (.str [97, 98, 99, 100, 101, 102, 103, 104]), .cst (.str [97, 108]), .cst (.str [97, 108, 108, 115]), .cst (.str [110, 111, 114]), .cst (.str [97, 110, 100, 115])]),
  .ret (.call false 4 [.comp false (.call false 0 [.slot 9] [] []) [.mk (.one 9) (.ov (.bin .add (.slot 7) (.slot 8))) []], .bin .add (.bin .mul (.lst false [.cst (.bl false)]) (.cst (.int 13))) (.bin .mul (.lst false [.cst (.bl true)]) (.cst (.int 7)))] [] [])]⟩
abbrev fs : List FD := [f_is_word, f__law_bag, f__law_pull, f__law_of, f__law_same, f_law]
abbrev gl : List (Nat × D) := [(6, .int 8), (7, .tup [.str [97, 108, 108], .str [110, 111, 110, 101], .str [115, 111, 109, 101], .str [110, 111, 116], .str [97, 110, 100], .str [111, 114]])]
abbrev i_is_word : Nat := 0
abbrev i__law_bag : Nat := 1
abbrev i__law_pull : Nat := 2
abbrev i__law_of : Nat := 3
abbrev i__law_same : Nat := 4
abbrev i_law : Nat := 5
end K01
set_option Elab.async false
set_option linter.all false
set_option maxRecDepth 100000
set_option maxHeartbeats 1000000
namespace K01
open OM
abbrev letters : List Nat := [97, 98, 99, 100, 101, 102, 103, 104, 105, 106, 107, 108, 109, 110, 111, 112, 113, 114, 115, 116, 117, 118, 119, 120, 121, 122]
abbrev reserved : List D := [.str [97, 108, 108], .str [110, 111, 110, 101], .str [115, 111, 109, 101], .str [110, 111, 116], .str [97, 110, 100], .str [111, 114]]
def okWord (x : List Nat) : Bool := (decide (1 ≤ (x.length : Int)) && decide ((x.length : Int) ≤ 8)) && !memD (.str x) reserved && x.all fun c => letters.contains c
def isWordD : D → Bool
  | .str x => okWord x
  | _ => false
abbrev g : Nat → Option D := fun x => gl.lookup x
abbrev C (k : Nat) : Cxt := cxt fs g k
theorem infix1 (c : Nat) : ∀ l : List Nat, isInfixB [c] l = l.contains c
  | [] => rfl
  | d :: l => by
    unfold isInfixB
    rw [infix1 c l, List.contains_cons]
    simp [List.isPrefixOf]
theorem ev_chain {X : Cxt} {rs : List Nat} {a b d : CE} {F : Fr} {S : Sto} {i j n : Int} (h1 : ev X rs a F S = .ok (.int i) S) (h2 : ev X rs b F S = .ok (.int j) S) (h3 : ev X rs d F S = .ok (.int n) S) : ev X rs (.chain .le .le a b d) F S = .ok (.bl (decide (i ≤ j) && decide (j ≤ n))) S := by
  simp only [ev, h1, h2, Out.bind, vCmp]
  by_cases z : i ≤ j
  · simp [z, h3]
  · simp [z]
theorem all_bools {f : Nat → Bool} : ∀ x : List Nat, bools (x.map fun c => D.bl (f c)) = some (x.map f)
  | [] => rfl
  | c :: x => by
    simp only [List.map_cons, bools]
    rw [all_bools x]
    rfl
def gl1 : D → List D
  | .str [c] => [.bl (letters.contains c)]
  | _ => []
theorem fm1 : ∀ x : List Nat, (x.map fun c => D.str [c]).flatMap gl1 = x.map fun c => D.bl (letters.contains c)
  | [] => rfl
  | c :: x => by
    rw [List.map_cons, List.flatMap_cons, fm1 x]
    rfl
theorem word_run (k : Nat) (v : D) (hv : v.plain = true) (rs : List Nat) (S : Sto) : callD fs g (k + 1) 0 [v] rs S = .ok (.bl (isWordD v)) S := by
  rw [callD_succ (G := f_is_word) rfl]
  unfold FD.run
  show (evSs (C k) rs f_is_word.body [some v, none] S).out = _
  simp only [f_is_word]
  have i1 := isin1 (X := C k) (rs := rs) (F := [some v, none]) (S := S) (i := 0) (t := 3) rfl hv (by omega)
  have n1 := ev_not i1 (b := kindIn (kD v) 3) rfl
  by_cases hs : ∃ x, v = .str x
  · obtain ⟨x, rfl⟩ := hs
    have l1 : ev (C k) rs (.bcall false .len [.slot 0]) [some (.str x), none] S = .ok (.int (x.length : Int)) S := by
      rw [ev_bcall1 (ev_slot rfl)]
      rfl
    have n2 := ev_not (ev_chain (i := 1) (n := 8) (rs := rs) (X := C k) ev_cst l1 (ev_glo (g := 6) rfl)) rfl
    have m1 : ev (C k) rs (.cmp .inn (.slot 0) (.glo 7)) [some (.str x), none] S = .ok (.bl (memD (.str x) reserved)) S := by
      rw [ev_cmp (ev_slot rfl) (ev_glo (g := 7) (d := .tup reserved) rfl)]
      rfl
    rw [evSs_cons]
    have c1 : ev (C k) rs (.bop false [.not (.isin (.slot 0) [.cst (.ty 3)]), .not (.chain .le .le (.cst (.int 1)) (.bcall false .len [.slot 0]) (.glo 6)), .cmp .inn (.slot 0) (.glo 7)]) [some (.str x), none] S = .ok (.bl (!(decide (1 ≤ (x.length : Int)) && decide ((x.length : Int) ≤ 8)) || memD (.str x) reserved)) S := by
      rw [ev_or n1]
      simp only [kD, show kindIn 3 3 = true from rfl, Bool.not_true, Bool.false_eq_true, if_false]
      exact or2 n2 m1
    rw [cond_ev c1]
    by_cases hc : (!(decide (1 ≤ (x.length : Int)) && decide ((x.length : Int) ≤ 8)) || memD (.str x) reserved) = true
    · rw [hc]
      simp only [if_true]
      rw [evSs_cons, ret_ev ev_cst]
      have : okWord x = false := by
        unfold okWord
        rw [Bool.or_eq_true] at hc
        rcases hc with hc | hc
        · rw [Bool.not_eq_true'] at hc
          rw [hc]
          simp
        · rw [hc]
          simp
      simp only [seq_ret, OS.out, isWordD, this]
    · have hc := Bool.eq_false_iff.mpr hc
      rw [hc]
      simp only [Bool.false_eq_true, if_false]
      rw [evSs_nil, seq_nx, evSs_cons]
      rw [Bool.or_eq_false_iff, Bool.not_eq_false'] at hc
      have hlen : x.length ≤ 8 := by
        have := hc.1
        simp only [Bool.and_eq_true, decide_eq_true_eq] at this
        omega
      have t1 : turns (turnF (C k) rs (.cmp .inn (.slot 1) (.cst (.str letters))) (.one 1) [] (wipeF [some (.str x), none] (Tgt.one 1).slots)) (.items (x.map fun c => .str [c])) (x.map fun c => D.str [c]).length 0 [] S = .ok (x.map fun c => D.bl (letters.contains c)) S := by
        have := turns_pure (f := turnF (C k) rs (.cmp .inn (.slot 1) (.cst (.str letters))) (.one 1) [] (wipeF [some (.str x), none] (Tgt.one 1).slots)) (S := S) (g := gl1) (l := x.map fun c => .str [c]) (fun d hd => by
          obtain ⟨c, _, rfl⟩ := List.mem_map.mp hd
          refine turnF_no (F2 := [some (.str x), some (.str [c])]) rfl ?_
          rw [ev_cmp (ev_slot rfl) ev_cst]
          show (match vIn (.str [c]) (.str letters) S with | some b => Out.ok (D.bl b) S | none => .bad) = _
          simp only [vIn, infix1])
        rw [this]
        rw [fm1]
      have e1 := comp_ev (mu := false) (S1 := S) (show evI (C k) rs (.ov (.slot 0)) [some (.str x), none] S = .ok (.items (x.map fun c => .str [c])) S from by simp [evI, ev, Out.bind, iterOf]) t1
      have hl : (x.map fun c => D.bl (letters.contains c)).length ≤ line := by
        rw [List.length_map]
        unfold line
        omega
      simp only [mkList, if_pos hl, Bool.false_eq_true, if_false] at e1
      have e2 : ev (C k) rs (.bcall false .all [.comp false (.cmp .inn (.slot 1) (.cst (.str letters))) [.mk (.one 1) (.ov (.slot 0)) []]]) [some (.str x), none] S = .ok (.bl (x.all fun c => letters.contains c)) S := by
        rw [ev_bcall1 e1]
        simp only [vBi, vBi1, lstOf, Option.bind, all_bools]
        rw [List.all_map]
        rfl
      rw [ret_ev e2]
      simp only [seq_ret, OS.out, isWordD, okWord, hc.1, hc.2, Bool.not_false, Bool.and_self, Bool.true_and]
  · have hk : kindIn (kD v) 3 = false := by
      cases v <;> first | rfl | (exact absurd ⟨_, rfl⟩ hs)
    rw [evSs_cons]
    have c1 : ev (C k) rs (.bop false [.not (.isin (.slot 0) [.cst (.ty 3)]), .not (.chain .le .le (.cst (.int 1)) (.bcall false .len [.slot 0]) (.glo 6)), .cmp .inn (.slot 0) (.glo 7)]) [some v, none] S = .ok (.bl true) S := by
      rw [ev_or n1, hk]
      rfl
    rw [cond_ev c1]
    simp only [if_true]
    rw [evSs_cons, ret_ev ev_cst]
    have : isWordD v = false := by cases v <;> first | rfl | (exact absurd ⟨_, rfl⟩ hs)
    simp only [seq_ret, OS.out, this]
theorem word_ev {k : Nat} {rs : List Nat} {F : Fr} {S S0 : Sto} {as : List CE} {v : D} (ha : evL (C (k + 1)) rs as F S0 = .ok [v] S) (hv : v.plain = true) : ev (C (k + 1)) rs (.call false 0 as [] []) F S0 = .ok (.bl (isWordD v)) S := by
  rw [ev_call (ps := [0]) ha (cxt_pars (G := f_is_word) rfl) rfl]
  show endCall S (callD fs g (k + 1) 0 [v] _ S) = _
  rw [word_run k v hv]
  exact end_ok rfl rfl
theorem word_evK {k : Nat} {rs : List Nat} {F : Fr} {S S0 : Sto} {a : CE} {v : D} (ha : ev (C (k + 1)) rs a F S0 = .ok v S) (hv : v.plain = true) : ev (C (k + 1)) rs (.call false 0 [] [0] [a]) F S0 = .ok (.bl (isWordD v)) S := by
  have e : ev (C (k + 1)) rs (.call false 0 [] [0] [a]) F S0 = endCall S ((C (k + 1)).call 0 [v] (S.length :: rs) S) := by
    simp only [ev, evL, ha, Out.bind]
    rfl
  rw [e]
  show endCall S (callD fs g (k + 1) 0 [v] _ S) = _
  rw [word_run k v hv]
  exact end_ok rfl rfl
theorem pull_e {k b : Nat} {rs : List Nat} {F : Fr} {S S0 : Sto} {as : List CE} {m : Int} (ha : evL (C (k + 1)) rs as F S0 = .ok [.ref b, .int m] S) (h : Bag S b) (hm : 0 < m) (hm2 : m < 1073741824) : ∃ r S', ev (C (k + 1)) rs (.call false 2 as [] []) F S0 = .ok (.int r) S' ∧ 0 ≤ r ∧ r < m ∧ Drew S S' b :=
  pull_ev (pp := [2, 3]) rfl rfl ha h hm hm2
theorem text_ev {k b : Nat} {rs : List Nat} {F : Fr} {S : Sto} (h : Bag S b) (hF : F[1]? = some (some (.ref b))) (h6 : 6 < F.length) : ∃ cs S', ev (C (k + 2)) rs (.bmeth .join (.cst (.str [])) [.comp false (.call false 3 [.slot 1, .cst (.str letters)] [] []) [.mk (.one 6) (.rng1 (.call false 2 [.slot 1, .cst (.int 11)] [] [])) []]]) F S = .ok (.str cs) S' ∧ cs.length ≤ 10 ∧ (∀ c ∈ cs, c ∈ letters) ∧ Drew S S' b := by
  obtain ⟨r, S1, e1, r1, r2, d1⟩ := pull_e (k := k + 1) (rs := rs) (F := F) (as := [.slot 1, .cst (.int 11)]) (evL_cons (ev_slot hF) (evL_cons ev_cst evL_nil)) h (by decide) (by decide)
  have i1 : evI (C (k + 2)) rs (.rng1 (.call false 2 [.slot 1, .cst (.int 11)] [] [])) F S = .ok (.items (rangeD 0 r.toNat)) S1 := by
    have e1 : ev (C (k + 2)) rs (.call false 2 [.slot 1, .cst (.int 11)] [] []) F S = .ok (.int r) S1 := e1
    simp only [evI, e1, Out.bind]
    rw [if_pos]
    simp only [Bool.and_eq_true, decide_eq_true_eq]
    omega
  have hw : (wipeF F (Tgt.one 6).slots)[1]? = some (some (.ref b)) := by
    show (F.set 6 none)[1]? = _
    rw [List.getElem?_set_ne (by omega)]
    exact hF
  obtain ⟨zs, S2, t2, cs, rfl, hl, hc, d2⟩ := turns_ind (f := turnF (C (k + 2)) rs (.call false 3 [.slot 1, .cst (.str letters)] [] []) (.one 6) [] (wipeF F (Tgt.one 6).slots)) (l := rangeD 0 r.toNat)
    (fun i ys S' => ∃ cs : List Nat, ys = cs.map (fun c => D.str [c]) ∧ cs.length = i ∧ (∀ c ∈ cs, c ∈ letters) ∧ Drew S1 S' b) (fun i d ys S' _ ⟨cs, e, hl, hc, dr⟩ => by
      have hF2 : ((wipeF F (Tgt.one 6).slots).set 6 (some d))[1]? = some (some (.ref b)) := by
        rw [List.getElem?_set_ne (by omega)]
        exact hw
      obtain ⟨c, S'', m1, dr2, e2⟩ := of_str (gl := g) (fs := fs) (k := k) (rs := rs) (O := 3) (P := 2) (po := [2, 4]) (pp := [2, 3]) (F := (wipeF F (Tgt.one 6).slots).set 6 (some d)) (as := [.slot 1, .cst (.str letters)]) rfl rfl rfl rfl dr.1 (s := letters) (by decide) (by decide) (evL_cons (ev_slot hF2) (evL_cons ev_cst evL_nil))
      refine ⟨[.str [c]], S'', turnF_no rfl e2, cs ++ [c], by rw [e]; simp, by simp [hl], fun x hx => ?_, dr.trans dr2⟩
      rcases List.mem_append.mp hx with hx | hx
      · exact hc x hx
      · rw [List.mem_singleton] at hx
        rw [hx]
        exact m1) (rangeD 0 r.toNat).length 0 [] S1 (by simp) ⟨[], rfl, rfl, fun _ m => by simp at m, .refl d1.1⟩
  have rl : ∀ (a : Int) (n : Nat), (rangeD a n).length = n := by
    intro a n
    induction n generalizing a with
    | zero => rfl
    | succ n ih => unfold rangeD; rw [List.length_cons, ih]
  rw [rl] at hl
  have cl : cs.length ≤ 10 := by omega
  have e3 := comp_ev (mu := false) i1 t2
  have hln : (cs.map fun c => D.str [c]).length ≤ line := by
    rw [List.length_map]
    unfold line
    omega
  simp only [mkList, if_pos hln, Bool.false_eq_true, if_false] at e3
  refine ⟨cs, S2, ?_, cl, hc, d1.trans d2⟩
  have tx : ∀ cs : List Nat, texts (cs.map fun c => D.str [c]) = some (cs.map fun c => [c]) := by
    intro cs
    induction cs with
    | nil => rfl
    | cons c cs ih => simp only [List.map_cons, texts, ih, Option.map_some]
  have jn : ∀ cs : List Nat, joinT [] (cs.map fun c => [c]) = cs := by
    intro cs
    induction cs with
    | nil => rfl
    | cons c cs ih =>
      cases cs with
      | nil => rfl
      | cons d cs =>
        simp only [List.map_cons, joinT] at ih ⊢
        rw [ih]
        rfl
  have sl : ∀ cs : List Nat, sumLen (cs.map fun c => [c]) = cs.length := by
    intro cs
    induction cs with
    | nil => rfl
    | cons c cs ih => simp only [List.map_cons, sumLen, ih, List.length_cons, List.length_nil]; omega
  simp only [ev] at e3 ⊢
  rw [bind_ok]
  simp only [bmOk, if_true, evL]
  rw [show ev (C (k + 2)) rs (.comp false (.call false 3 [.slot 1, .cst (.str letters)] [] []) [.mk (.one 6) (.rng1 (.call false 2 [.slot 1, .cst (.int 11)] [] [])) []]) F S = .ok (.lst (cs.map fun c => .str [c])) S2 from by simpa only [ev] using e3]
  simp only [bind_ok, vBm, vJoin, seqOf, Option.bind, tx, jn, sl, List.length_map, List.length_nil, Nat.mul_zero, Nat.add_zero]
  unfold okIf
  rw [if_pos]
  rw [decide_eq_true_eq]
  unfold line
  omega
theorem bag_run (k : Nat) (ns : List Int) (h : ns.length ≤ 63) : ∃ ns', callD fs g (k + 1) 1 [.frz ns] [] [] = .ok (.ref 0) [bagC ns' 0 0 5633] := by
  refine ⟨cut ns none (some 63), ?_⟩
  rw [callD_succ (G := f__law_bag) rfl]
  unfold FD.run
  show (evSs (C k) [] f__law_bag.body [some (.frz ns)] []).out = _
  simp only [f__law_bag]
  have hl : (cut ns none (some 63)).length ≤ line := by
    have : (cut ns none (some 63)).length ≤ ns.length := by
      unfold cut
      simp only [List.length_take, List.length_drop]
      omega
    unfold line
    omega
  have e1 : ev (C k) [] (.bcall false .list [.sli (.slot 0) [] [.cst (.int 63)]]) [some (.frz ns)] [] = .ok (.lst ((cut ns none (some 63)).map D.int)) [] := by
    rw [ev_bcall1 (x := .lst ((cut ns none (some 63)).map D.int)) (S1 := []) (by simp [ev, evO, Out.bind, vSli])]
    simp only [vBi, vBi1, seqOf, mkList, List.length_map, if_pos hl, Bool.false_eq_true, if_false]
  have e2 := ev_lst (mu := true) (evL_cons e1 (evL_cons (ev_cst (d := .int 0)) (evL_cons (ev_cst (d := .int 0)) (evL_cons (ev_cst (d := .int 5633)) evL_nil))))
  rw [evSs_cons, ret_ev (d := .ref 0) (S1 := [bagC (cut ns none (some 63)) 0 0 5633])]
  · rfl
  · rw [e2]
    unfold mkList
    rw [if_pos (by show 4 ≤ line; unfold line; omega)]
    rfl
abbrev signs : List D := [.str [65], .str [90], .str [48], .str [57], .str [32], .str [95], .str [45], .str [126], .str [40], .str [10]]
abbrev odd : List D := [.str [], .str [97, 108, 108], .str [110, 111, 110, 101], .str [115, 111, 109, 101], .str [110, 111, 116], .str [97, 110, 100], .str [111, 114], .non, .int 3, .bl true, .tup [.str [97]], .lst [.str [97]], .str [97, 98, 99, 100, 101, 102, 103, 104, 105]]
abbrev good : List D := [.str [97], .str [122], .str [97, 98, 99, 100, 101, 102, 103, 104], .str [97, 108], .str [97, 108, 108, 115], .str [110, 111, 114], .str [97, 110, 100, 115]]
theorem sign_of {d : D} (h : d ∈ signs) : ∃ c, d = .str [c] ∧ letters.contains c = false := by
  simp only [List.mem_cons, List.not_mem_nil, or_false] at h
  rcases h with rfl | rfl | rfl | rfl | rfl | rfl | rfl | rfl | rfl | rfl <;> exact ⟨_, rfl, by decide⟩
theorem word_no {x : List Nat} {c : Nat} (m : c ∈ x) (h : letters.contains c = false) : okWord x = false := by
  unfold okWord
  have : (x.all fun c => letters.contains c) = false := by
    rw [List.all_eq_false]
    exact ⟨c, m, by rw [h]; simp⟩
  rw [this, Bool.and_false]
theorem word_all {x : List Nat} (h : ∀ c ∈ x, c ∈ letters) : okWord x = ((decide (1 ≤ (x.length : Int)) && decide ((x.length : Int) ≤ 8)) && !memD (.str x) reserved) := by
  unfold okWord
  have : (x.all fun c => letters.contains c) = true := by
    rw [List.all_eq_true]
    exact fun c m => List.contains_iff_mem.mpr (h c m)
  rw [this, Bool.and_true]
theorem same_b {k : Nat} {rs : List Nat} {F : Fr} {S S0 : Sto} {as : List CE} {a b : Bool} (ha : evL (C (k + 1)) rs as F S0 = .ok [.bl a, .bl b] S) : ev (C (k + 1)) rs (.call false 4 as [] []) F S0 = .ok (.bl (a == b)) S := by
  rw [same_ev (Sm := 4) (po := [5, 6]) rfl rfl ha rfl rfl rfl (by show 0 < k + 1; omega) (Nat.zero_le _) (Nat.zero_le _)]
  have e : sameD (.bl a) (.bl b) = (a == b) := by cases a <;> cases b <;> rfl
  rw [e]
theorem cutS {S : Sto} {x : List Nat} {lo hi : Option Int} : vSli (.str x) lo hi S = .ok (.str (cut x lo hi)) S := rfl
theorem cut_le {x : List Nat} {lo hi : Option Int} : (cut x lo hi).length ≤ x.length := by
  unfold cut
  simp only [List.length_take, List.length_drop]
  omega
theorem addS {S : Sto} {x y : List Nat} (h : x.length + y.length ≤ line) : vBin .add (.str x) (.str y) S = .ok (.str (x ++ y)) S := by
  simp [vBin, vAdd, okIf, h]
/-- a turn of the law -/
theorem turn (k : Nat) {ns : List Int} {x2 x3 x4 x5 : Option D} {S : Sto} (h : Bag S 0) (h1 : S.length = 1) : ∃ y3 y4 y5 S', evSs (C (k + 3)) [] [
    .set 3 (.bmeth .join (.cst (.str [])) [.comp false (.call false 3 [.slot 1, .cst (.str letters)] [] []) [.mk (.one 6) (.rng1 (.call false 2 [.slot 1, .cst (.int 11)] [] [])) []]]),
    .cond (.not (.call false 4 [.call false 0 [.slot 3] [] [], .bop true [.chain .le .le (.cst (.int 1)) (.bcall false .len [.slot 3]) (.cst (.int 8)), .cmp .nin (.slot 3) (.tup [.cst (.str [97, 108, 108]), .cst (.str [110, 111, 110, 101]), .cst (.str [115, 111, 109, 101]), .cst (.str [110, 111, 116]), .cst (.str [97, 110, 100]), .cst (.str [111, 114])])]] [] [])) [
      .ret (.cst (.bl false))] [],
    .par [4, 5] [.call false 2 [.slot 1, .bin .add (.bcall false .len [.slot 3]) (.cst (.int 1))] [] [], .call false 3 [.slot 1, .lst false [.cst (.str [65]), .cst (.str [90]), .cst (.str [48]), .cst (.str [57]), .cst (.str [32]), .cst (.str [95]), .cst (.str [45]), .cst (.str [126]), .cst (.str [40]), .cst (.str [10])]] [] []],
    .cond (.not (.call false 4 [.call false 0 [] [0] [.bin .add (.bin .add (.sli (.slot 3) [] [.slot 4]) (.slot 5)) (.sli (.slot 3) [.slot 4] [])], .cst (.bl false)] [] [])) [
      .ret (.cst (.bl false))] []] [some (.frz ns), some (.ref 0), x2, x3, x4, x5, none, none, none, none] S = .nx [some (.frz ns), some (.ref 0), x2, y3, y4, y5, none, none, none, none] S' ∧ Bag S' 0 ∧ S'.length = 1 := by
  obtain ⟨cs, S1, e1, cl, hc, d1⟩ := text_ev (k := k + 1) (rs := []) (F := [some (.frz ns), some (.ref 0), x2, x3, x4, x5, none, none, none, none]) h rfl (by simp)
  rw [evSs_cons, set_ev e1, seq_nx]
  show ∃ y3 y4 y5 S', evSs (C (k + 3)) [] _ [some (.frz ns), some (.ref 0), x2, some (.str cs), x4, x5, none, none, none, none] S1 = _ ∧ _
  have e2 : ev (C (k + 3)) [] (.call false 0 [.slot 3] [] []) [some (.frz ns), some (.ref 0), x2, some (.str cs), x4, x5, none, none, none, none] S1 = .ok (.bl (okWord cs)) S1 := word_ev (k := k + 2) (v := .str cs) (evL_cons (ev_slot rfl) evL_nil) rfl
  have l1 : ev (C (k + 3)) [] (.bcall false .len [.slot 3]) [some (.frz ns), some (.ref 0), x2, some (.str cs), x4, x5, none, none, none, none] S1 = .ok (.int (cs.length : Int)) S1 := by
    rw [ev_bcall1 (ev_slot (d := .str cs) rfl)]
    rfl
  have e3 : ev (C (k + 3)) [] (.bop true [.chain .le .le (.cst (.int 1)) (.bcall false .len [.slot 3]) (.cst (.int 8)), .cmp .nin (.slot 3) (.tup [.cst (.str [97, 108, 108]), .cst (.str [110, 111, 110, 101]), .cst (.str [115, 111, 109, 101]), .cst (.str [110, 111, 116]), .cst (.str [97, 110, 100]), .cst (.str [111, 114])])]) [some (.frz ns), some (.ref 0), x2, some (.str cs), x4, x5, none, none, none, none] S1 = .ok (.bl (okWord cs)) S1 := by
    rw [word_all hc]
    refine and2 (ev_chain ev_cst l1 ev_cst) ?_
    have t1 : ev (C (k + 3)) [] (.tup [.cst (.str [97, 108, 108]), .cst (.str [110, 111, 110, 101]), .cst (.str [115, 111, 109, 101]), .cst (.str [110, 111, 116]), .cst (.str [97, 110, 100]), .cst (.str [111, 114])]) [some (.frz ns), some (.ref 0), x2, some (.str cs), x4, x5, none, none, none, none] S1 = .ok (.tup reserved) S1 := by
      rw [ev_tup (evL_cons ev_cst (evL_cons ev_cst (evL_cons ev_cst (evL_cons ev_cst (evL_cons ev_cst (evL_cons ev_cst evL_nil))))))]
      rfl
    rw [ev_cmp (ev_slot (d := .str cs) rfl) t1]
    rfl
  have e4 := same_b (k := k + 2) (evL_cons e2 (evL_cons e3 evL_nil))
  rw [evSs_cons, cond_ev (ev_not e4 rfl), beq_self_eq_true]
  simp only [Bool.not_true, Bool.false_eq_true, if_false]
  rw [evSs_nil, seq_nx, evSs_cons]
  obtain ⟨at', S2, e5, p1, p2, d2⟩ := pull_e (k := k + 2) (rs := []) (F := [some (.frz ns), some (.ref 0), x2, some (.str cs), x4, x5, none, none, none, none]) (m := (cs.length : Int) + 1) (as := [.slot 1, .bin .add (.bcall false .len [.slot 3]) (.cst (.int 1))]) (evL_cons (ev_slot rfl) (evL_cons (by rw [ev_bin l1 (ev_cst (d := .int 1))]; rfl) evL_nil)) d1.1 (by omega) (by omega)
  obtain ⟨sg, S3, m1, d3, e6⟩ := of_lst (gl := g) (fs := fs) (k := k + 1) (rs := []) (O := 3) (P := 2) (po := [2, 4]) (pp := [2, 3]) (F := [some (.frz ns), some (.ref 0), x2, some (.str cs), x4, x5, none, none, none, none]) (S := S2) (S0 := S2) (as := [.slot 1, .lst false [.cst (.str [65]), .cst (.str [90]), .cst (.str [48]), .cst (.str [57]), .cst (.str [32]), .cst (.str [95]), .cst (.str [45]), .cst (.str [126]), .cst (.str [40]), .cst (.str [10])]]) rfl rfl rfl rfl d2.1 (s := signs) (by decide) (by decide) (fun d hd m => by obtain ⟨c, rfl, _⟩ := sign_of hd; rfl)
    (evL_cons (ev_slot rfl) (evL_cons (by
      rw [ev_lst (evL_cons ev_cst (evL_cons ev_cst (evL_cons ev_cst (evL_cons ev_cst (evL_cons ev_cst (evL_cons ev_cst (evL_cons ev_cst (evL_cons ev_cst (evL_cons ev_cst (evL_cons ev_cst evL_nil))))))))))]
      rfl) evL_nil))
  obtain ⟨c, rfl, hbad⟩ := sign_of m1
  have e7 : evS (C (k + 3)) [] (.par [4, 5] [.call false 2 [.slot 1, .bin .add (.bcall false .len [.slot 3]) (.cst (.int 1))] [] [], .call false 3 [.slot 1, .lst false [.cst (.str [65]), .cst (.str [90]), .cst (.str [48]), .cst (.str [57]), .cst (.str [32]), .cst (.str [95]), .cst (.str [45]), .cst (.str [126]), .cst (.str [40]), .cst (.str [10])]] [] []]) [some (.frz ns), some (.ref 0), x2, some (.str cs), x4, x5, none, none, none, none] S1 = .nx [some (.frz ns), some (.ref 0), x2, some (.str cs), some (.int at'), some (.str [c]), none, none, none, none] S3 := by
    simp only [evS]
    rw [evL_cons e5 (evL_cons e6 evL_nil), run_ok]
    rfl
  rw [e7, seq_nx, evSs_cons]
  have s1 : ev (C (k + 3)) [] (.sli (.slot 3) [] [.slot 4]) [some (.frz ns), some (.ref 0), x2, some (.str cs), some (.int at'), some (.str [c]), none, none, none, none] S3 = .ok (.str (cut cs none (some at'))) S3 := by
    simp [ev, evO, Out.bind, cutS]
  have s2 : ev (C (k + 3)) [] (.sli (.slot 3) [.slot 4] []) [some (.frz ns), some (.ref 0), x2, some (.str cs), some (.int at'), some (.str [c]), none, none, none, none] S3 = .ok (.str (cut cs (some at') none)) S3 := by
    simp [ev, evO, Out.bind, cutS]
  have q1 := cut_le (x := cs) (lo := none) (hi := some at')
  have q2 := cut_le (x := cs) (lo := some at') (hi := none)
  have a1 : ev (C (k + 3)) [] (.bin .add (.bin .add (.sli (.slot 3) [] [.slot 4]) (.slot 5)) (.sli (.slot 3) [.slot 4] [])) [some (.frz ns), some (.ref 0), x2, some (.str cs), some (.int at'), some (.str [c]), none, none, none, none] S3 = .ok (.str (cut cs none (some at') ++ [c] ++ cut cs (some at') none)) S3 := by
    have b1 : ev (C (k + 3)) [] (.bin .add (.sli (.slot 3) [] [.slot 4]) (.slot 5)) [some (.frz ns), some (.ref 0), x2, some (.str cs), some (.int at'), some (.str [c]), none, none, none, none] S3 = .ok (.str (cut cs none (some at') ++ [c])) S3 := by
      rw [ev_bin s1 (ev_slot rfl), addS (by unfold line; simp only [List.length_singleton]; omega)]
    rw [ev_bin b1 s2, addS (by unfold line; rw [List.length_append]; simp only [List.length_singleton]; omega)]
  have e8 := word_evK (k := k + 2) a1 rfl
  have e9 : isWordD (.str (cut cs none (some at') ++ [c] ++ cut cs (some at') none)) = false := word_no (c := c) (by simp) hbad
  rw [e9] at e8
  have e10 := same_b (k := k + 2) (evL_cons e8 (evL_cons (ev_cst (d := .bl false)) evL_nil))
  rw [cond_ev (ev_not e10 rfl)]
  simp only [beq_self_eq_true, Bool.not_true, Bool.false_eq_true, if_false]
  rw [evSs_nil, seq_nx, evSs_nil]
  exact ⟨_, _, _, S3, rfl, d3.1, by rw [d3.len, d2.len, d1.len, h1]⟩
theorem math (ns : List Int) (h : ns.length ≤ 63) : ∃ S, callD fs (fun g => gl.lookup g) 8 i_law [.frz ns] [] [] = .ok (.bl true) S := by
  show ∃ S, callD fs g (7 + 1) 5 [.frz ns] [] [] = .ok (.bl true) S
  rw [callD_succ (G := f_law) rfl]
  unfold FD.run
  show ∃ S, (evSs (C 7) [] f_law.body [some (.frz ns), none, none, none, none, none, none, none, none, none] []).out = _
  simp only [f_law]
  obtain ⟨ns', e1⟩ := bag_run 6 ns h
  rw [evSs_cons, set_ev (d := .ref 0) (S1 := [bagC ns' 0 0 5633]) (by
    rw [ev_callK (ps := [1]) (evL_cons (ev_slot (d := .frz ns) rfl) evL_nil) (cxt_pars (G := f__law_bag) rfl) rfl]
    exact e1), seq_nx, evSs_cons]
  show ∃ S, ((evS (C 7) [] _ [some (.frz ns), some (.ref 0), none, none, none, none, none, none, none, none] _).seq _).out = _
  have hl : ∃ F' S', evS (C 7) [] (f_law.body.getD 1 .pas) [some (.frz ns), some (.ref 0), none, none, none, none, none, none, none, none] [bagC ns' 0 0 5633] = .nx F' S' ∧ (∃ x2 x3 x4 x5, F' = [some (.frz ns), some (.ref 0), x2, x3, x4, x5, none, none, none, none]) ∧ Bag S' 0 ∧ S'.length = 1 := by
    obtain ⟨F', S', e2, p⟩ := turnsS_ind (l := rangeD 0 8) (f := fun d F2 S2 => match bindT (.one 2) d F2 with
      | some F3 => evSs (C 7) [] [
    .set 3 (.bmeth .join (.cst (.str [])) [.comp false (.call false 3 [.slot 1, .cst (.str letters)] [] []) [.mk (.one 6) (.rng1 (.call false 2 [.slot 1, .cst (.int 11)] [] [])) []]]),
    .cond (.not (.call false 4 [.call false 0 [.slot 3] [] [], .bop true [.chain .le .le (.cst (.int 1)) (.bcall false .len [.slot 3]) (.cst (.int 8)), .cmp .nin (.slot 3) (.tup [.cst (.str [97, 108, 108]), .cst (.str [110, 111, 110, 101]), .cst (.str [115, 111, 109, 101]), .cst (.str [110, 111, 116]), .cst (.str [97, 110, 100]), .cst (.str [111, 114])])]] [] [])) [
      .ret (.cst (.bl false))] [],
    .par [4, 5] [.call false 2 [.slot 1, .bin .add (.bcall false .len [.slot 3]) (.cst (.int 1))] [] [], .call false 3 [.slot 1, .lst false [.cst (.str [65]), .cst (.str [90]), .cst (.str [48]), .cst (.str [57]), .cst (.str [32]), .cst (.str [95]), .cst (.str [45]), .cst (.str [126]), .cst (.str [40]), .cst (.str [10])]] [] []],
    .cond (.not (.call false 4 [.call false 0 [] [0] [.bin .add (.bin .add (.sli (.slot 3) [] [.slot 4]) (.slot 5)) (.sli (.slot 3) [.slot 4] [])], .cst (.bl false)] [] [])) [
      .ret (.cst (.bl false))] []] F3 S2
      | none => .bad) (fun _ F' S' => (∃ x2 x3 x4 x5, F' = [some (.frz ns), some (.ref 0), x2, x3, x4, x5, none, none, none, none]) ∧ Bag S' 0 ∧ S'.length = 1) (fun i d F S _ ⟨⟨x2, x3, x4, x5, eF⟩, hb, h1⟩ => by
        subst eF
        obtain ⟨y3, y4, y5, S', e, hb', h1'⟩ := turn 4 (ns := ns) (x2 := some d) (x3 := x3) (x4 := x4) (x5 := x5) hb h1
        exact ⟨_, S', e, ⟨_, _, _, _, rfl⟩, hb', h1'⟩) 8 0 [some (.frz ns), some (.ref 0), none, none, none, none, none, none, none, none] [bagC ns' 0 0 5633] rfl ⟨⟨_, _, _, _, rfl⟩, ⟨ns', 0, 0, 5633, rfl, by decide, by decide, by decide, by decide⟩, rfl⟩
    refine ⟨F', S', ?_, p⟩
    rw [← e2]
    rfl
  obtain ⟨F', S', e2, ⟨x2, x3, x4, x5, rfl⟩, hb, h1⟩ := hl
  have e2' := e2
  simp only [f_law, List.getD_cons_succ, List.getD_cons_zero] at e2'
  rw [e2', seq_nx]
  rw [evSs_cons, set_ev (d := .lst odd) (S1 := S') (by
    rw [ev_lst (xs := odd) (S1 := S') (by simp [evL, ev, Out.bind, okIf, mkList, line])]
    rfl), seq_nx]
  rw [evSs_cons, set_ev (d := .lst good) (S1 := S') (by
    rw [ev_lst (xs := good) (S1 := S') (by simp [evL, ev, Out.bind])]
    rfl), seq_nx]
  show ∃ S, (evSs (C 7) [] _ [some (.frz ns), some (.ref 0), x2, x3, x4, x5, none, some (.lst odd), some (.lst good), none] S').out = _
  have i1 : evI (C 7) [] (.ov (.bin .add (.slot 7) (.slot 8))) [some (.frz ns), some (.ref 0), x2, x3, x4, x5, none, some (.lst odd), some (.lst good), none] S' = .ok (.items (odd ++ good)) S' := by
    simp only [evI]
    rw [ev_bin (ev_slot (d := .lst odd) rfl) (ev_slot (d := .lst good) rfl)]
    rfl
  have t1 := turns_pure (f := turnF (C 7) [] (.call false 0 [.slot 9] [] []) (.one 9) [] (wipeF [some (.frz ns), some (.ref 0), x2, x3, x4, x5, none, some (.lst odd), some (.lst good), none] (Tgt.one 9).slots)) (S := S') (g := fun d => [.bl (isWordD d)]) (l := odd ++ good) (fun d hd => by
    refine turnF_no rfl (word_ev (k := 6) (evL_cons (ev_slot (d := d) rfl) evL_nil) ?_)
    exact plainL_mem (ds := odd ++ good) rfl hd)
  have e3 := comp_ev (mu := false) i1 t1
  rw [show mkList false ((odd ++ good).flatMap fun d => [D.bl (isWordD d)]) S' = .ok (.lst ((odd ++ good).flatMap fun d => [.bl (isWordD d)])) S' from rfl] at e3
  have e4 : ev (C 7) [] (.bin .add (.bin .mul (.lst false [.cst (.bl false)]) (.cst (.int 13))) (.bin .mul (.lst false [.cst (.bl true)]) (.cst (.int 7)))) [some (.frz ns), some (.ref 0), x2, x3, x4, x5, none, some (.lst odd), some (.lst good), none] S' = .ok (.lst (List.replicate 13 (.bl false) ++ List.replicate 7 (.bl true))) S' := by
    simp only [ev, evL, bind_ok]
    rfl
  have e5 := same_ev (Sm := 4) (po := [5, 6]) (fs := fs) (gl := g) (k := 7) rfl rfl (evL_cons e3 (evL_cons e4 evL_nil)) rfl rfl rfl (by decide) (by decide) (by decide)
  rw [evSs_cons, ret_ev e5, seq_ret]
  refine ⟨S', ?_⟩
  rfl
end K01
set_option Elab.async false
set_option linter.all false
set_option maxRecDepth 100000
set_option maxHeartbeats 0
namespace K01
open PySem PySem.Spec PyProof.Rows L2 OM
def top (i : Nat) : Stmt := PySem.Challenge.pw_oncemarks_k01_words_recognized.main.body.getD i (.Pass ⟨0, 0, 0, 0⟩)
def e_is_word : Ent := ⟨⟨("is_word", none), "is_word", "is_word", argsOf (top 3), bodyOf (top 3), scopeOf (top 3), [], []⟩, f_is_word, ["value", "sign"], [(1, []), (0, [0])]⟩
def e__law_bag : Ent := ⟨⟨("_law_bag", none), "_law_bag", "_law_bag", argsOf (top 5), bodyOf (top 5), scopeOf (top 5), [], []⟩, f__law_bag, ["_law_script"], [(1, [])]⟩
def e__law_pull : Ent := ⟨⟨("_law_pull", none), "_law_pull", "_law_pull", argsOf (top 6), bodyOf (top 6), scopeOf (top 6), [], []⟩, f__law_pull, ["_law_bag_here", "_law_many_z", "_law_cell", "_law_got", "_law_seed"], [(2, [])]⟩
def e__law_of : Ent := ⟨⟨("_law_of", none), "_law_of", "_law_of", argsOf (top 7), bodyOf (top 7), scopeOf (top 7), [], []⟩, f__law_of, ["_law_bag_here", "_law_some_z"], [(2, [])]⟩
def e__law_same : Ent := ⟨⟨("_law_same", none), "_law_same", "_law_same", argsOf (top 8), bodyOf (top 8), scopeOf (top 8), [], []⟩, f__law_same, ["_law_found_z", "_law_due_z", "_law_one_z", "_law_other_z"], [(2, [])]⟩
def e_law : Ent := ⟨⟨("law", none), "law", "law", argsOf (top 9), bodyOf (top 9), scopeOf (top 9), [], []⟩, f_law, ["_law_script", "_law_bag_here", "_law_turn", "_law_text_z", "_law_at_z", "_law_sign_z", "_law_k", "_law_odd", "_law_good_z", "_law_one_z"], [(1, [])]⟩
def t : Tbl := ⟨["is_word", "_law_bag", "_law_pull", "_law_of", "_law_same", "law", "MOST_LETTERS", "RESERVED"], ["value", "_law_script", "_law_bag_here", "_law_many_z", "_law_some_z", "_law_found_z", "_law_due_z"], ["isinstance", "str", "len", "all", "list", "int", "tuple", "zip", "bool", "range"], [e_is_word, e__law_bag, e__law_pull, e__law_of, e__law_same, e_law], gl⟩
theorem s_is_word_0 : ShB t.an e_is_word.d e_is_word.F.ps 1 [] := fun _ _ _ _ _ _ us ws _ hu hw e => match us, ws, hu, hw with
  | [_], [], _, _ => by cases e; rfl
theorem s_is_word_1 : ShB t.an e_is_word.d e_is_word.F.ps 0 [0] := fun _ _ _ _ _ _ us ws _ hu hw e => match us, ws, hu, hw with
  | [], [_], _, _ => by cases e; rfl
theorem s__law_bag_0 : ShB t.an e__law_bag.d e__law_bag.F.ps 1 [] := fun _ _ _ _ _ _ us ws _ hu hw e => match us, ws, hu, hw with
  | [_], [], _, _ => by cases e; rfl
theorem s__law_pull_0 : ShB t.an e__law_pull.d e__law_pull.F.ps 2 [] := fun _ _ _ _ _ _ us ws _ hu hw e => match us, ws, hu, hw with
  | [_, _], [], _, _ => by cases e; rfl
theorem s__law_of_0 : ShB t.an e__law_of.d e__law_of.F.ps 2 [] := fun _ _ _ _ _ _ us ws _ hu hw e => match us, ws, hu, hw with
  | [_, _], [], _, _ => by cases e; rfl
theorem s__law_same_0 : ShB t.an e__law_same.d e__law_same.F.ps 2 [] := fun _ _ _ _ _ _ us ws _ hu hw e => match us, ws, hu, hw with
  | [_, _], [], _, _ => by cases e; rfl
theorem s_law_0 : ShB t.an e_law.d e_law.F.ps 1 [] := fun _ _ _ _ _ _ us ws _ hu hw e => match us, ws, hu, hw with
  | [_], [], _, _ => by cases e; rfl
theorem shp : ShA t.an t.es := ⟨⟨s_is_word_0, s_is_word_1, trivial⟩, ⟨s__law_bag_0, trivial⟩, ⟨s__law_pull_0, trivial⟩, ⟨s__law_of_0, trivial⟩, ⟨s__law_same_0, trivial⟩, ⟨s_law_0, trivial⟩, trivial⟩
theorem chk : entOk t 0 t.es = true := by decide +kernel
abbrev R : PySem.W.OpenRow := PySem.W.OpenLaw.row PySem.Challenge.rw_oncemarks_k01_words_recognized
abbrev hk : PySem.W.Hook := He.hookX 4 t.fa t.fn [] [] t.ex
def ob (s : PySem.W.SharedT) : He.AlX := He.obsX 4 t.fa t.fn [] [] t.ex (HandSHeadRun.getT s)
theorem ob_eq (s : PySem.W.SharedT) : ob s = hk.obs s.abs := He.obsX_eq (HandSHeadRun.getT_eq s)
theorem run (w : World) : HandSHeadRun.RunEq R (PySem.W.view R.prog [9]) hk ob 400 ["RESERVED", "MOST_LETTERS", "is_word", "_law_bag", "_law_pull", "_law_of", "_law_same"] w := by
  intro os
  kernel_rfl
end K01
open PySem PySem.W PySem.Calls PyProof.Rows
theorem PySem.Challenge.cw_oncemarks_k01_words_recognized_holds : PySem.Challenge.rw_oncemarks_k01_words_recognized.Holds := by
  w_on; o_law
  refine HandSHeadRun.head_any (r := OpenLaw.row PySem.Challenge.rw_oncemarks_k01_words_recognized) (q := view (OpenLaw.row PySem.Challenge.rw_oncemarks_k01_words_recognized).prog [9]) (H := K01.hk) (ob := K01.ob) (M := 400) (loose := ["RESERVED", "MOST_LETTERS", "is_word", "_law_bag", "_law_pull", "_law_of", "_law_same"]) (d := HandSHeadRun.topDef (OpenLaw.row PySem.Challenge.rw_oncemarks_k01_words_recognized).prog 9) (kwd := []) K01.ob_eq
    (by kernel_rfl) (fun s => by kernel_rfl) K01.run (by kernel_rfl) (by kernel_rfl) (by kernel_rfl) (by rfl) (by first | assumption | decide +kernel) (by decide +kernel) ⟨rfl, rfl, rfl, rfl, rfl, by decide +kernel⟩ ?hw ?hc
  case hw => w_witness2
  case hc =>
    refine OM.walk_ofW (l := PySem.Challenge.rw_oncemarks_k01_words_recognized) (n := 63) (k := 8) (x := "_law_script") (CX := fun w => L2.CX (PySem.Challenge.rw_oncemarks_k01_words_recognized).prog w) rfl (by decide) (by kernel_rfl) ⟨rfl, by decide, by decide⟩ ?F (fun _ _ _ _ _ z => OM.cx_end z)
    intro w mg fa h Y G hmg0
    obtain ⟨K, KX, c⟩ := Y
    have hmg : mg (OM.nmAt K01.t.gn 5) = some (.ref fa) := by
      have e : (HandSHeadRun.topDef (OpenLaw.row PySem.Challenge.rw_oncemarks_k01_words_recognized).prog 9).name = OM.nmAt K01.t.gn 5 := by kernel_rfl
      rw [← e]
      exact hmg0
    exact OM.law_end (t := K01.t) (l := PySem.Challenge.rw_oncemarks_k01_words_recognized) (e := K01.e_law) KX G c.t.d c.more K01.chk K01.shp rfl rfl (by decide +kernel) hmg K01.math
