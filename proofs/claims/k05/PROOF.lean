import PyProof.Rows.All
import Wide.All
import OpenK.AllK
import Wide.FinOn
import PySem.Syntax
import PySem.Eval
import HandS.ForMost
import HandS.Star
import HandS.Style
import HandS.TupAny
import HandS.Flow
import HandS.Wide
import HandS.SortRule
import HandS.IsInst
import HandS.FStr
import HandS.Zip
import HandS.Steps
import KE.KOpsOwn
import HandS.Defaults
import HandS.Property
import HandS.ClsMeth
import PyProof.InstEq
import HandS.HeadHook3
import HandS.NoneIn
import KE.KTupSum
import KE.DataMinMax
import KE.IntTextLaws
import HandS.Codes
import HandS.Text
import HandS.Exc
import HandS.HeadNt
import HandS.Head2
import HandS.EndBits
import HandS.HeadEnd
import PySem.Challenge.RW_cleanspans_k05_what_one_step_makes
set_option Elab.async false
set_option linter.all false
section CSLang_

namespace CS
open PySem (Str)

/-! ## values, cells, states -/
inductive PV where
  | non | bl (b : Bool) | int (i : Int) | str (s : Str) | tup (xs : List PV) | scr (xs : List PV) | rol (xs : List PV) | obj (c : Nat) (xs : List PV) | ref (n : Nat)
  deriving Repr, Inhabited

mutual
/-- no reference within -/
def PV.pureB : PV → Bool
  | .ref _ => false
  | .tup xs => PV.pureL xs
  | .scr xs => PV.pureL xs
  | .rol xs => PV.pureL xs
  | .obj _ xs => PV.pureL xs
  | _ => true
def PV.pureL : List PV → Bool
  | [] => true
  | x :: xs => PV.pureB x && PV.pureL xs
end

def PV.refI : PV → Option Nat
  | .ref n => some n
  | _ => none
inductive Cell where
  | lst (xs : List PV)
  | ins (c : Nat) (fs : List (Nat × PV))
  deriving Repr, Inhabited

abbrev SH := List Cell

inductive R (α : Type) where
  | ok (a : α) (s : SH)
  | bad (w : Nat)
  deriving Repr, Inhabited

def R.bind {α β : Type} (x : R α) (f : α → SH → R β) : R β :=
  match x with
  | .ok a s => f a s
  | .bad w => .bad w

abbrev Sl := List (Option PV)

inductive Fl where
  | next (σ : Sl) (s : SH)
  | ret (v : PV) (s : SH)
  | brk (σ : Sl) (s : SH)
  | cont (σ : Sl) (s : SH)
  | bad (w : Nat)
  deriving Repr, Inhabited

/-! ## the small language -/
inductive BinO where
  | add | sub | mul | fdiv | mod | pow | bor | band | shl | shr
  deriving Repr, DecidableEq, Inhabited
inductive CmpO where
  | eq | ne | lt | le | gt | ge | is_ | isnot | in_ | notin
  deriving Repr, DecidableEq, Inhabited
inductive Ty where
  | int | bool | str | list | tuple | own (c : Nat)
  deriving Repr, DecidableEq, Inhabited
/-- primitive operations -/
inductive Prim where
  | tup | lst | neg | ix
  | len | abs | int | str | max | min | sum | all | any | tuple | list | sorted
  | isi (ts : List Ty)
  | append | pop | join | split | fmt | starts | min1 | max1 | count
  deriving Repr, DecidableEq, Inhabited

mutual
inductive IE where
  | c (v : PV)
  | v (i : Nat)
  | prim (z : Bool) (o : Prim) (es : Es)
  | bin (z : Bool) (o : BinO) (a b : IE)
  | cmp (o : CmpO) (a b : IE)
  | chain (o p : CmpO) (a b c : IE)
  | and_ (a b : IE)
  | or_ (a b : IE)
  | not_ (a : IE)
  | ite (c : IT) (a b : IE)
  | slice (z : Bool) (a : IE) (lo hi : OpI)
  | attr (a : IE) (f : Nat)
  | call (f : Nat) (es ks : Es) (perm : List Nat)
  | mk (c : Nat) (es ks : Es) (perm : List Nat)
  | meth (a : IE) (m : Nat) (es : Es)
  | calo (a : IE) (m : Nat) (es ks : Es) (perm : List Nat)
  | bm (o : Prim) (a : IE) (es : Es)
  | dget (kvs : List (Str × PV)) (a : IE)
  | din (kvs : List (Str × PV)) (neg : Bool) (a : IE)
  | comp (z : Bool) (elt : IE) (own : List Nat) (t : Tg) (it : It) (tst : IT)
  | disp (z : Bool) (ds : Ds)
  | rev (z : Bool) (a : IE)
inductive Ds where
  | nil
  | item (e : IE) (ds : Ds)
  | star (e : IE) (ds : Ds)
inductive OpI where
  | none
  | some (e : IE)
inductive IT where
  | yes
  | e (a : IE)
  | c (a : IE)
  | and_ (a b : IT)
  | or_ (a b : IT)
  | not_ (a : IT)
  | ite (c a b : IT)
inductive Es where
  | nil
  | cons (e : IE) (es : Es)
inductive Tg where
  | name (i : Nat)
  | names (is : List Nat)
  | sub (a i : IE)
  | attr (a : IE) (f : Nat)
inductive It where
  | val (e : IE)
  | range (es : Es)
  | zip (a b : IE)
  | enum (a : IE)
end
mutual
inductive IS where
  | asg (t : Tg) (e : IE)
  | aug (i : Nat) (o : BinO) (e : IE)
  | ex (e : IE)
  | ret (e : IE)
  | if_ (c : IT) (a b : Ss)
  | for_ (t : Tg) (it : It) (b : Ss)
  | while_ (c : IT) (b : Ss)
  | brk | cont | pass | never
inductive Ss where
  | nil
  | cons (s : IS) (ss : Ss)
end
instance : Inhabited IE := ⟨.v 0⟩
instance : Inhabited Es := ⟨.nil⟩
instance : Inhabited IS := ⟨.pass⟩
instance : Inhabited Ss := ⟨.nil⟩

structure FnI where
  np : Nat
  ns : Nat
  df : List PV
  mu : Bool
  fr : Bool
  ml : List Nat
  body : Ss
  deriving Inhabited
structure ClI where
  init : Nat
  meths : List (Nat × Nat)
  props : List (Nat × Nat)
  flds : List Nat
  deriving Inhabited
structure Gs where
  fns : List FnI
  cls : List ClI
  deriving Inhabited

/-! ## plain operations -/
def sizeL : Nat := 16777216
def ixN (n : Nat) (i : Int) : Option Nat := if 0 ≤ i then (if i < n then some i.toNat else none) else if -(n : Int) ≤ i then some (i + n).toNat else none
def lim63 (i : Int) : Bool := match i with
  | .ofNat n => Nat.blt n 4611686018427387904
  | .negSucc n => Nat.blt n 4611686018427387904
theorem lim63_iff {i : Int} : lim63 i = true ↔ -(2 ^ 62) ≤ i ∧ i < 2 ^ 62 := by
  cases i with
  | ofNat n =>
    show Nat.blt n 4611686018427387904 = true ↔ -(2 ^ 62) ≤ ((n : Nat) : Int) ∧ ((n : Nat) : Int) < 2 ^ 62
    rw [Nat.blt_eq]
    omega
  | negSucc n =>
    show Nat.blt n 4611686018427387904 = true ↔ _
    rw [Nat.blt_eq]
    omega

/-- the items of a list or a tuple -/
def seqOf (h : List Cell) : PV → Option (List PV)
  | .tup xs => some xs
  | .scr xs => some xs
  | .rol xs => some xs
  | .ref n => match h[n]? with | some (.lst xs) => some xs | _ => none
  | _ => none
/-- the items of a list -/
def lstOf (h : List Cell) : PV → Option (List PV)
  | .scr xs => some xs
  | .rol xs => some xs
  | .ref n => match h[n]? with | some (.lst xs) => some xs | _ => none
  | _ => none

def tru (h : List Cell) : PV → Option Bool
  | .non => some false
  | .bl b => some b
  | .int i => some (i != 0)
  | .str s => if s.length ≤ sizeL then some (decide (s.length ≠ 0)) else none
  | .tup xs => some (!xs.isEmpty)
  | .scr xs => some (!xs.isEmpty)
  | .rol xs => some (!xs.isEmpty)
  | .obj _ _ => none
  | .ref n => match h[n]? with | some (.lst xs) => some (!xs.isEmpty) | _ => none

/-- data without objects, lists opened -/
inductive Da where
  | non | bl (b : Bool) | int (i : Int) | str (s : Str) | lst (xs : List Da) | tup (xs : List Da)
  deriving Repr, Inhabited
mutual
def Da.eqv : Da → Da → Bool
  | .non, .non => true
  | .bl a, .bl b => a == b
  | .bl a, .int j => (if a then 1 else 0) == j
  | .int i, .bl b => i == (if b then 1 else 0)
  | .int i, .int j => i == j
  | .str a, .str b => decide (a = b)
  | .lst xs, .lst ys => Da.eqvL xs ys
  | .tup xs, .tup ys => Da.eqvL xs ys
  | _, _ => false
def Da.eqvL : List Da → List Da → Bool
  | [], [] => true
  | x :: xs, y :: ys => Da.eqv x y && Da.eqvL xs ys
  | _, _ => false
end
/-- how deep values are read -/
def daOf (h : List Cell) : Nat → PV → Option Da
  | _, .non => some .non
  | _, .bl b => some (.bl b)
  | _, .int i => some (.int i)
  | _, .str s => if s.cps.toList.all (fun c => decide (c < 0x110000)) then some (.str s) else none
  | 0, _ => none
  | d + 1, .tup xs => (xs.mapM (daOf h d)).map .tup
  | d + 1, .scr xs => (xs.mapM (daOf h d)).map .lst
  | d + 1, .rol xs => (xs.mapM (daOf h d)).map .lst
  | d + 1, .obj _ _ => none
  | d + 1, .ref n => match h[n]? with | some (.lst xs) => (xs.mapM (daOf h d)).map .lst | _ => none

inductive Eff where
  | val (v : PV)
  | new (c : Cell)
  | wr (a : Nat) (c : Cell) (v : PV)
  deriving Repr, Inhabited

/-- z: a new list is one that stays as it is -/
def apE (z : Bool) : Eff → SH → R PV
  | .val v, s => .ok v s
  | .new c, s => (match c with
    | .lst xs => if z then .ok (.rol xs) s else .ok (.ref s.length) (s ++ [c])
    | .ins _ _ => .ok (.ref s.length) (s ++ [c]))
  | .wr a c v, s => .ok v (s.set a c)

def mulOk (i j : Int) : Bool := decide (i.natAbs < 2 ^ 64) || decide (j.natAbs < 2 ^ 64)
def isTy (h : List Cell) : Ty → PV → Option Bool
  | .int, .int _ => some true
  | .int, .bl _ => some true
  | .bool, .bl _ => some true
  | .str, .str _ => some true
  | .tuple, .tup _ => some true
  | .list, .scr _ => some true
  | .list, .rol _ => some true
  | t, .obj c _ => some (match t with | .own d => decide (c = d) | _ => false)
  | t, .ref n => match h[n]? with
    | some (.lst _) => some (match t with | .list => true | _ => false)
    | some (.ins c _) => some (match t with | .own d => decide (c = d) | _ => false)
    | none => none
  | _, _ => some false
def isTys (h : List Cell) (v : PV) : List Ty → Option Bool
  | [] => some false
  | t :: ts => match isTy h t v with
    | some true => some true
    | some false => isTys h v ts
    | none => none
def getInts : List PV → Option (List Int)
  | [] => some []
  | .int i :: xs => (getInts xs).map (i :: ·)
  | _ => none
def getBools : List PV → Option (List Bool)
  | [] => some []
  | .bl b :: xs => (getBools xs).map (b :: ·)
  | _ => none
def getStrs : List PV → Option (List Str)
  | [] => some []
  | .str s :: xs => (getStrs xs).map (s :: ·)
  | _ => none
def getPairs : List PV → Option (List (Int × Int))
  | [] => some []
  | .tup [.int i, .int j] :: xs => (getPairs xs).map ((i, j) :: ·)
  | _ => none
def leP (p q : Int × Int) : Bool := decide (p.1 < q.1) || (decide (p.1 = q.1) && decide (p.2 ≤ q.2))
def insP (p : Int × Int) : List (Int × Int) → List (Int × Int)
  | [] => [p]
  | q :: qs => if leP p q then p :: q :: qs else q :: insP p qs
def sortP : List (Int × Int) → List (Int × Int)
  | [] => []
  | p :: ps => insP p (sortP ps)
def joinS (sep : Str) : List Str → Str
  | [] => ⟨#[]⟩
  | [x] => x
  | x :: y :: r => x ++ sep ++ joinS sep (y :: r)
def sizeS (ss : List Str) : Nat := (ss.map (·.length)).sum
def showI (i : Int) : Str := (toString i : String)
def strI (i : Int) : Option Str := if i.natAbs.log2 < 1920 then some (showI i) else none
def fmtS : PV → Option Str
  | .str s => some s
  | .int i => strI i
  | _ => none
def sIx (n d : Nat) : Option Int → Nat
  | none => d
  | some v => if v < 0 then (v + (n : Int)).toNat else min v.toNat n
def cutL {α : Type} (xs : List α) (lo hi : Option Int) : List α := (xs.drop (sIx xs.length 0 lo)).take (sIx xs.length xs.length hi - sIx xs.length 0 lo)
def pTup (vs : List PV) : Option Eff := if vs.length ≤ sizeL then some (.val (.tup vs)) else none
def pLst (vs : List PV) : Option Eff := if vs.length ≤ sizeL then some (.new (.lst vs)) else none
def one (vs : List PV) : Option PV := match vs with | [v] => some v | _ => none
def two (vs : List PV) : Option (PV × PV) := match vs with | [v, w] => some (v, w) | _ => none
def asI (v : PV) : Option Int := match v with | .int i => some i | _ => none
def asS (v : PV) : Option Str := match v with | .str i => some i | _ => none
def pNeg (vs : List PV) : Option Eff := (one vs).bind fun v => (asI v).map fun i => .val (.int (-i))
def pIx1 (h : List Cell) (x : PV) (i : Int) : Option Eff := match x with
  | .str s => if s.length ≤ sizeL then ((ixN s.length i).bind fun j => s.cps.toList[j]?).map fun c => .val (.str ⟨#[c]⟩) else none
  | x => (seqOf h x).bind fun xs => ((ixN xs.length i).bind fun j => xs[j]?).map .val
def pIx (h : List Cell) (vs : List PV) : Option Eff := (two vs).bind fun p => (asI p.2).bind fun i => pIx1 h p.1 i
def pLen1 (h : List Cell) (x : PV) : Option Eff := match x with
  | .str s => if s.length ≤ sizeL then some (.val (.int s.length)) else none
  | x => (seqOf h x).map fun xs => .val (.int xs.length)
def isDig (c : Nat) : Bool := decide (48 ≤ c) && decide (c ≤ 57)
def digV (cs : List Nat) : Nat := cs.foldl (fun n c => n * 10 + (c - 48)) 0
/-- the number of a text of digits -/
def intS (a : Str) : Option Int := if a.length ≤ 640 then (match a.cps.toList with
  | 45 :: c :: r => if (c :: r).all isDig then some (-(digV (c :: r) : Int)) else none
  | c :: r => if (c :: r).all isDig then some (digV (c :: r) : Int) else none
  | [] => none) else none
/-- a text cut at each b; k signs are still to be passed over -/
def cutAt (b : List Nat) : Nat → List Nat → List Nat → List (List Nat)
  | _, acc, [] => [acc]
  | 0, acc, c :: r => bif (c :: r).take b.length == b then acc :: cutAt b (b.length - 1) [] r else cutAt b 0 (acc ++ [c]) r
  | k + 1, acc, _ :: r => cutAt b k acc r
def splitS (a b : Str) : Option (List Str) := if b.cps.toList ≠ [] ∧ b.cps.toList.all (fun c => decide (c < 256)) = true ∧ a.length + 2 ≤ sizeL then some ((cutAt b.cps.toList 0 [] a.cps.toList).map fun l => ⟨l.toArray⟩) else none
def pInt1 (x : PV) : Option Eff := match x with
  | .str a => (intS a).map fun i => .val (.int i)
  | .int i => some (.val (.int i))
  | .bl b => some (.val (.int (if b then 1 else 0)))
  | _ => none
def pMM (h : List PV) (f : Int → Int → Int) : Option Eff := (two h).bind fun p => (asI p.1).bind fun i => (asI p.2).map fun j => .val (.int (f i j))
def pAppend (h : List Cell) (vs : List PV) : Option Eff := (two vs).bind fun p => match p.1 with
  | .ref n => (match h[n]? with
    | some (.lst xs) => if xs.length < sizeL then some (.wr n (.lst (xs ++ [p.2])) .non) else none
    | _ => none)
  | _ => none
def pPop (h : List Cell) (vs : List PV) : Option Eff := (two vs).bind fun p => (asI p.2).bind fun i => match p.1 with
  | .ref n => (match h[n]? with
    | some (.lst xs) => if lim63 i then (ixN xs.length i).bind fun j => xs[j]?.map fun v => .wr n (.lst (xs.eraseIdx j)) v else none
    | _ => none)
  | _ => none
def pJoin (h : List Cell) (vs : List PV) : Option Eff := (two vs).bind fun p => match p.1 with
  | .str sep => (lstOf h p.2).bind fun xs => (getStrs xs).bind fun ss => if sizeS ss + ss.length * sep.length ≤ sizeL then some (.val (.str (joinS sep ss))) else none
  | _ => none
def prim (h : List Cell) (o : Prim) (vs : List PV) : Option Eff := match o with
  | .tup => pTup vs
  | .lst => pLst vs
  | .neg => pNeg vs
  | .ix => pIx h vs
  | .len => (one vs).bind (pLen1 h)
  | .abs => (one vs).bind fun v => (asI v).map fun i => .val (.int (if i < 0 then -i else i))
  | .int => (one vs).bind pInt1
  | .str => (one vs).bind fun v => (asI v).bind fun i => (strI i).map fun s => .val (.str s)
  | .max => pMM vs fun i j => if j > i then j else i
  | .min => pMM vs fun i j => if j < i then j else i
  | .sum => (one vs).bind fun x => (seqOf h x).bind fun xs => (getInts xs).map fun is => .val (.int is.sum)
  | .all => (one vs).bind fun x => (lstOf h x).bind fun xs => (getBools xs).map fun bs => .val (.bl (bs.all id))
  | .any => (one vs).bind fun x => (lstOf h x).bind fun xs => (getBools xs).map fun bs => .val (.bl (bs.any id))
  | .tuple => (one vs).bind fun x => (seqOf h x).map fun xs => .val (.tup xs)
  | .list => (one vs).bind fun x => (seqOf h x).map fun xs => .new (.lst xs)
  | .sorted => (one vs).bind fun x => (seqOf h x).bind fun xs => (getPairs xs).map fun ps => .new (.lst ((sortP ps).map fun p => .tup [.int p.1, .int p.2]))
  | .isi ts => (one vs).bind fun x => (isTys h x ts).map fun b => .val (.bl b)
  | .append => pAppend h vs
  | .pop => pPop h vs
  | .join => pJoin h vs
  | .fmt => (vs.mapM fmtS).bind fun ss => if sizeS ss ≤ sizeL then some (.val (.str (ss.foldl (· ++ ·) ⟨#[]⟩))) else none
  | .split => (two vs).bind fun p => (match p.1, p.2 with
    | .str a, .str b => (splitS a b).map fun ss => .new (.lst (ss.map .str))
    | _, _ => none)
  | .starts => (two vs).bind fun p => (match p.1, p.2 with
    | .str a, .str b => some (.val (.bl (b.cps.toList.isPrefixOf a.cps.toList)))
    | _, _ => none)
  | .count => (two vs).bind fun p => (match p.1, p.2 with
    | .str a, .str b => (match b.cps.toList with
      | [c] => some (.val (.int (a.cps.toList.count c : Nat)))
      | _ => none)
    | _, _ => none)
  | .min1 => (one vs).bind fun x => (seqOf h x).bind fun xs => (getInts xs).bind fun is => (match is with
    | [] => none
    | i :: is => some (.val (.int (is.foldl min i))))
  | .max1 => (one vs).bind fun x => (seqOf h x).bind fun xs => (getInts xs).bind fun is => (match is with
    | [] => none
    | i :: is => some (.val (.int (is.foldl max i))))

/-- the receiver of a built-in method -/
def bmTy (h : List Cell) (o : Prim) (x : PV) : Bool := match o with
  | .append => (lstOf h x).isSome
  | .pop => (lstOf h x).isSome
  | .join => (match x with | .str _ => true | _ => false)
  | .split => (match x with | .str _ => true | _ => false)
  | .starts => (match x with | .str _ => true | _ => false)
  | .count => (match x with | .str _ => true | _ => false)
  | _ => false
/-- the items of a list of the program's own -/
def ownL (h : List Cell) : PV → Option (List PV)
  | .rol xs => some xs
  | .ref n => match h[n]? with | some (.lst xs) => some xs | _ => none
  | _ => none
/-- a text so many times -/
def repS (a : Str) (n : Nat) : Str := ⟨(List.replicate n a.cps.toList).flatten.toArray⟩
def binP (h : List Cell) : BinO → PV → PV → Option Eff
  | .add, .int i, .int j => some (.val (.int (i + j)))
  | .add, .str a, .str b => if a.length + b.length ≤ sizeL then some (.val (.str (a ++ b))) else none
  | .add, .tup xs, .tup ys => if xs.length + ys.length ≤ sizeL then some (.val (.tup (xs ++ ys))) else none
  | .sub, .int i, .int j => some (.val (.int (i - j)))
  | .mul, .int i, .int j => if mulOk i j then some (.val (.int (i * j))) else none
  | .mul, .str a, .int k => if lim63 k && decide (a.length * k.toNat ≤ sizeL) then some (.val (.str (repS a k.toNat))) else none
  | .fdiv, .int i, .int j => if 0 < j ∧ j.natAbs.log2 < 9000 then some (.val (.int (i / j))) else if j < 0 ∧ j.natAbs < 1073741824 then some (.val (.int (i.fdiv j))) else none
  | .mod, .int i, .int j => if 0 < j then some (.val (.int (i % j))) else none
  | .pow, .int i, .int j => if 0 ≤ j ∧ j ≤ 1000000 ∧ i.natAbs < 2 ^ 64 then some (.val (.int (i ^ j.toNat))) else none
  | .add, x, y => (ownL h x).bind fun xs => (ownL h y).bind fun ys => if xs.length + ys.length ≤ sizeL then some (.new (.lst (xs ++ ys))) else none
  | .mul, x, .int k => (ownL h x).bind fun xs => if lim63 k && decide (xs.length * k.toNat ≤ sizeL) then some (.new (.lst (List.replicate k.toNat xs).flatten)) else none
  | _, _, _ => none

def eqP (h : List Cell) (x y : PV) : Option Bool :=
  (daOf h 8 x).bind fun a => (daOf h 8 y).map fun b => a.eqv b

/-- flat values and their == -/
def PV.flat : PV → Bool
  | .non => true
  | .bl _ => true
  | .int _ => true
  | .str _ => true
  | _ => false
def PV.eqF : PV → PV → Bool
  | .non, .non => true
  | .bl a, .bl b => a == b
  | .bl a, .int b => (if a then 1 else 0) == b
  | .int a, .bl b => a == (if b then 1 else 0)
  | .int a, .int b => a == b
  | .str a, .str b => a == b
  | _, _ => false
def inP (h : List Cell) (x y : PV) : Option Bool := match y with
  | .str z => (match x with
    | .str t => (match t.cps.toList with
      | [c] => some (decide (c ∈ z.cps.toList))
      | _ => none)
    | _ => none)
  | y => (seqOf h y).bind fun xs => if x.flat && xs.all PV.flat then some (xs.any fun z => z.eqF x) else none
def PV.isN : PV → Bool
  | .non => true
  | _ => false
def cmpP (h : List Cell) : CmpO → PV → PV → Option Bool
  | .eq, x, y => eqP h x y
  | .ne, x, y => (eqP h x y).map (!·)
  | .lt, .int i, .int j => some (decide (i < j))
  | .le, .int i, .int j => some (decide (i ≤ j))
  | .gt, .int i, .int j => some (decide (j < i))
  | .ge, .int i, .int j => some (decide (j ≤ i))
  | .is_, x, .non => some x.isN
  | .isnot, x, .non => some (!x.isN)
  | .in_, x, y => inP h x y
  | .notin, x, y => (inP h x y).map (!·)
  | _, _, _ => none

/-! ## sources of loops -/
inductive Src where
  | items (xs : List PV)
  | list (n : Nat)
  | zip (a b : Src)
  | enum (a : Src)
  deriving Repr, Inhabited
def Src.at (h : List Cell) : Src → Nat → Option (Option PV)
  | .items xs, i => some xs[i]?
  | .list n, i => match h[n]? with | some (.lst xs) => some xs[i]? | _ => none
  | .zip a b, i => match a.at h i, b.at h i with
    | some (some x), some (some y) => some (some (.tup [x, y]))
    | some _, some _ => some none
    | _, _ => none
  | .enum a, i => match a.at h i with
    | some (some x) => some (some (.tup [.int i, x]))
    | some none => some none
    | none => none
def Src.size (h : List Cell) : Src → Nat
  | .items xs => xs.length
  | .list n => match h[n]? with | some (.lst xs) => xs.length | _ => 0
  | .zip a b => min (a.size h) (b.size h)
  | .enum a => a.size h
def srcOf (h : List Cell) : PV → Option Src
  | .tup xs => some (.items xs)
  | .scr xs => some (.items xs)
  | .rol xs => some (.items xs)
  | .ref n => match h[n]? with | some (.lst _) => some (.list n) | _ => none
  | .str s => some (.items (s.cps.toList.map fun c => .str ⟨#[c]⟩))
  | _ => none
def zipOf (h : List Cell) (x y : PV) : Option Src :=
  match x, y with
  | .tup xs, .tup ys => some (.zip (.items xs) (.items ys))
  | x, y => (lstOf h x).bind fun _ => (lstOf h y).bind fun _ => (srcOf h x).bind fun p => (srcOf h y).map fun q => .zip p q
def enumOf (h : List Cell) (x : PV) : Option Src := (lstOf h x).bind fun _ => (srcOf h x).map .enum
def upTo (lo : Int) (n : Nat) : List PV := (List.range n).map fun (k : Nat) => PV.int (lo + (k : Int))
def rangeOf : List PV → Option Src
  | [.int j] => if lim63 j then some (.items (upTo 0 j.toNat)) else none
  | [.int i, .int j] => if lim63 i && lim63 j then some (.items (upTo i (j - i).toNat)) else none
  | _ => none

def forS (src : Src) (body : PV → Sl → SH → Fl) : Nat → Nat → Sl → SH → Fl
  | 0, _, _, _ => .bad 1
  | k + 1, i, σ, s => match src.at s i with
    | none => .bad 2
    | some none => .next σ s
    | some (some v) => match body v σ s with
      | .next σ' s' => forS src body k (i + 1) σ' s'
      | .cont σ' s' => forS src body k (i + 1) σ' s'
      | .brk σ' s' => .next σ' s'
      | .ret v s' => .ret v s'
      | .bad w => .bad w
/-- a comprehension's turns: none: left out -/
def compS (src : Src) (turn : PV → SH → R (Option PV)) : Nat → Nat → List PV → SH → R (List PV)
  | 0, _, _, _ => .bad 3
  | k + 1, i, acc, s => match src.at s i with
    | none => .bad 4
    | some none => .ok acc s
    | some (some v) => match turn v s with
      | .ok (some y) s' => if acc.length < sizeL then compS src turn k (i + 1) (acc ++ [y]) s' else .bad 5
      | .ok none s' => compS src turn k (i + 1) acc s'
      | .bad w => .bad w
def whileS (test : Sl → SH → R Bool) (body : Sl → SH → Fl) : Nat → Sl → SH → Fl
  | 0, _, _ => .bad 6
  | k + 1, σ, s => match test σ s with
    | .ok true s' => (match body σ s' with
      | .next σ' s'' => whileS test body k σ' s''
      | .cont σ' s'' => whileS test body k σ' s''
      | .brk σ' s'' => .next σ' s''
      | .ret v s'' => .ret v s''
      | .bad w => .bad w)
    | .ok false s' => .next σ s'
    | .bad w => .bad w
def setSl : Sl → List Nat → List PV → Option Sl
  | σ, [], [] => some σ
  | σ, i :: is, v :: vs => setSl (σ.set i (some v)) is vs
  | _, _, _ => none
def wipeS (σ : Sl) : List Nat → Sl
  | [] => σ
  | i :: is => wipeS (σ.set i none) is
def putA (f : Nat) (v : PV) : List (Nat × PV) → List (Nat × PV)
  | [] => [(f, v)]
  | (g, w) :: r => if g = f then (f, v) :: r else (g, w) :: putA f v r
def ordL {α : Type} (perm : List Nat) (xs : List α) : List α := if perm.isEmpty then xs else perm.filterMap fun i => xs[i]?
/-- the defaults that fill up -/
def dfl (F : FnI) (n : Nat) : List PV := F.df.drop (F.df.length - (F.np - n))
def padA (G : Gs) (f : Nat) (n : Nat) (vs : List PV) : Option (List PV) := match G.fns[f]? with
  | some F => let full := vs ++ dfl F n; if full.length = F.np then some full else none
  | none => none
def liftO {α : Type} (o : Option α) (s : SH) (w : Nat) : R α := match o with | some a => .ok a s | none => .bad w
def effO (z : Bool) (o : Option Eff) (s : SH) (w : Nat) : R PV := match o with | some e => apE z e s | none => .bad w
def setItem (s : SH) : PV → PV → PV → Option Eff
  | .ref n, .int i, v => match s[n]? with
    | some (.lst xs) => (ixN xs.length i).map fun j => .wr n (.lst (xs.set j v)) .non
    | _ => none
  | _, _, _ => none
def fldOk (G : Gs) (c f : Nat) : Bool := match G.cls[c]? with | some C => C.flds.contains f | none => false
def setAttr (G : Gs) (s : SH) (f : Nat) : PV → PV → Option Eff
  | .ref n, v => match s[n]? with
    | some (.ins c fs) => if fs.length < 1000 && fldOk G c f then some (.wr n (.ins c (putA f v fs)) .non) else none
    | _ => none
  | _, _ => none

/-- an object's fields, by the class's own order -/
def objFs (G : Gs) (c : Nat) (vs : List PV) : List (Nat × PV) := match G.cls[c]? with | some C => C.flds.zip vs | none => []
/-- own operators' names -/
def binId : BinO → Option Nat
  | .bor => some 1 | .band => some 2 | .sub => some 3 | .shr => some 4 | .shl => some 5 | .mul => some 6 | _ => none
def insOf (G : Gs) (h : List Cell) : PV → Option (Nat × List (Nat × PV))
  | .ref n => match h[n]? with | some (.ins c fs) => some (c, fs) | _ => none
  | .obj c vs => some (c, objFs G c vs)
  | _ => none

mutual
/-- no list within -/
def PV.nrB : PV → Bool
  | .rol _ => false
  | .scr _ => false
  | .tup xs => PV.nrL xs
  | .obj _ xs => PV.nrL xs
  | _ => true
def PV.nrL : List PV → Bool
  | [] => true
  | x :: xs => PV.nrB x && PV.nrL xs
end
/-- a copy that stays as it is; ok: the cells that are not written any more -/
def fzV (s : SH) (ok : Nat → Bool) : Nat → PV → Option PV
  | 0, v => if v.pureB then some v else none
  | d + 1, v => if v.pureB then some v else match v with
    | .ref n => if ok n then (match s[n]? with
      | some (.lst xs) => (xs.mapM (fzV s ok d)).map .rol
      | _ => none) else none
    | .tup xs => (xs.mapM (fzV s ok d)).map .tup
    | .rol xs => (xs.mapM (fzV s ok d)).map .rol
    | .obj c xs => (xs.mapM (fzV s ok d)).map (.obj c)
    | _ => none
/-- no list of the caller's within, at any depth -/
def nrV (s : SH) : Nat → PV → Bool
  | 0, v => v.pureB && v.nrB
  | d + 1, v => if v.pureB then v.nrB else match v with
    | .ref n => (match s[n]? with
      | some (.lst xs) => xs.all (nrV s d)
      | _ => false)
    | .tup xs => xs.all (nrV s d)
    | .obj _ xs => xs.all (nrV s d)
    | _ => false
def Cell.vals : Cell → List PV
  | .lst xs => xs
  | .ins _ fs => fs.map (·.2)
def Cell.pureB (c : Cell) : Bool := PV.pureL c.vals
/-- the same thing with other values -/
def Cell.upv : Cell → List PV → Cell
  | .lst _, vs => .lst vs
  | .ins c fs, vs => .ins c ((fs.map (·.1)).zip vs)
section
variable (G : Gs) (call : Nat → List PV → SH → R PV)
def methOf (c m : Nat) : Option Nat := (G.cls[c]?).bind fun C => C.meths.lookup m
def propOf (c m : Nat) : Option Nat := (G.cls[c]?).bind fun C => C.props.lookup m

/-- what may stand on the right of an own operator -/
def rightOk (o : BinO) (c : Nat) (y : PV) (s : SH) : Bool := match y with
  | .int _ => true
  | y => (match insOf G s y with
    | some (d, _) => decide (c = d) || ((binId o).bind (methOf G d)).isNone
    | none => false)
def binV (z : Bool) (o : BinO) (x y : PV) (s : SH) : R PV := match insOf G s x with
  | some (c, _) => (match (binId o).bind (methOf G c) with
    | some f => if rightOk G o c y s then call f [x, y] s else .bad 13
    | none => .bad 14)
  | none => effO z (binP s o x y) s 11
/-- == by an own method -/
def eqOwn (c : Nat) (x y : PV) (s : SH) : R PV := match methOf G c 0 with
  | some f => call f [x, y] s
  | none => .bad 12
/-- what len may tell -/
def lenB (v : PV) (s : SH) : R PV := match v with
  | .int i => if 0 ≤ i then if lim63 i then .ok (.int i) s else .bad 15 else .bad 15
  | _ => .bad 15
/-- x[y] and len(x) by an own method; d: else -/
def ownP (o : Prim) (vs : List PV) (s : SH) (d : R PV) : R PV := match o, vs with
  | .ix, [x, y] => (match insOf G s x with
    | some (c, _) => (match methOf G c 9 with
      | some f => call f [x, y] s
      | none => .bad 14)
    | none => d)
  | .len, [x] => (match insOf G s x with
    | some (c, _) => (match methOf G c 8 with
      | some f => (call f [x] s).bind lenB
      | none => .bad 14)
    | none => d)
  | _, _ => d
/-- the other truth -/
def notV (v : PV) (s : SH) : R PV := match v with
  | .bl b => .ok (.bl (!b)) s
  | _ => .bad 18
def cmpV (o : CmpO) (x y : PV) (s : SH) : R PV :=
  match insOf G s x with
  | some (c, _) => (match o with
    | .eq => eqOwn G call c x y s
    | .ne => (eqOwn G call c x y s).bind notV
    | _ => liftO ((cmpP s o x y).map .bl) s 16)
  | none => liftO ((cmpP s o x y).map .bl) s 17
def attrV (f : Nat) (x : PV) (s : SH) : R PV :=
  match insOf G s x with
  | some (c, fs) => (match propOf G c f with
    | some g => call g [x] s
    | none => if fldOk G c f then liftO (fs.lookup f) s 20 else .bad 20)
  | none => .bad 21
def callV (f : Nat) (vs : List PV) (perm : List Nat) (s : SH) : R PV :=
  (liftO (padA G f vs.length (ordL perm vs)) s 40).bind fun vs s => call f vs s
/-- what was made, an object that stays as it is -/
def sealO (C : ClI) (c : Nat) (tf : Bool) (s' s : SH) : R PV := match s' with
  | [.ins c' fs] => if c' = c ∧ fs.map (·.1) = C.flds ∧ PV.pureL (fs.map (·.2)) = true ∧ (tf = true → PV.nrL (fs.map (·.2)) = true) then .ok (.obj c (fs.map (·.2))) s else .bad 25
  | _ => .bad 26
def mkV (c : Nat) (vs : List PV) (perm : List Nat) (s : SH) : R PV :=
  match G.cls[c]? with
  | some C => match vs.mapM (fzV s (fun _ => true) 16) with
    | some ws => (liftO (padA G C.init (ws.length + 1) (ordL perm (.ref 0 :: ws))) s 41).bind fun full _ => (call C.init full [.ins c []]).bind fun v s' => match v with
      | .non => sealO C c (!(PV.pureL vs)) s' s
      | _ => .bad 22
    | none => .bad 24
  | none => .bad 23
/-- the method of a receiver -/
def methFind (m : Nat) (x : PV) (s : SH) : Option Nat := match insOf G s x with
  | some (c, fs) => if (fs.lookup m).isNone then methOf G c m else none
  | none => none

def sliceV (z : Bool) (x : PV) (l u : Option Int) (s : SH) : R PV := match x with
  | .str t => if t.length ≤ sizeL then .ok (.str ⟨(cutL t.cps.toList l u).toArray⟩) s else .bad 38
  | .tup xs => .ok (.tup (cutL xs l u)) s
  | x => (liftO (lstOf s x) s 39).bind fun xs s => apE z (.new (.lst (cutL xs l u))) s

/-- a copy from behind -/
def revV (z : Bool) (x : PV) (s : SH) : R PV := match x with
  | .tup xs => .ok (.tup xs.reverse) s
  | x => (liftO (lstOf s x) s 39).bind fun xs s => apE z (.new (.lst xs.reverse)) s
mutual
def ev : IE → Sl → SH → R PV
  | .c v, _, s => .ok v s
  | .v i, σ, s => match σ[i]? with
    | some (some v) => .ok v s
    | _ => .bad 30
  | .prim z o es, σ, s => (evs es σ s).bind fun vs s => ownP G call o vs s (effO z (prim s o vs) s 31)
  | .bin z o a b, σ, s => (ev a σ s).bind fun x s => (ev b σ s).bind fun y s => binV G call z o x y s
  | .cmp o a b, σ, s => (ev a σ s).bind fun x s => (ev b σ s).bind fun y s => cmpV G call o x y s
  | .chain o p a b c, σ, s => (ev a σ s).bind fun x s => (ev b σ s).bind fun y s => (liftO (cmpP s o x y) s 32).bind fun k s =>
      if k then (ev c σ s).bind fun z s => liftO ((cmpP s p y z).map .bl) s 33 else .ok (.bl false) s
  | .and_ a b, σ, s => (ev a σ s).bind fun x s => (liftO (tru s x) s 34).bind fun k s => if k then ev b σ s else .ok x s
  | .or_ a b, σ, s => (ev a σ s).bind fun x s => (liftO (tru s x) s 35).bind fun k s => if k then .ok x s else ev b σ s
  | .not_ a, σ, s => (ev a σ s).bind fun x s => (liftO (tru s x) s 36).bind fun k s => .ok (.bl (!k)) s
  | .ite c a b, σ, s => (evT c σ s).bind fun k s => if k then ev a σ s else ev b σ s
  | .slice z a lo hi, σ, s => (ev a σ s).bind fun x s => (evO lo σ s).bind fun l s => (evO hi σ s).bind fun u s => sliceV z x l u s
  | .attr a f, σ, s => (ev a σ s).bind fun x s => attrV G call f x s
  | .call f es ks perm, σ, s => (evs es σ s).bind fun vs s => (evs ks σ s).bind fun ws s => callV G call f (vs ++ ws) perm s
  | .mk c es ks perm, σ, s => (evs es σ s).bind fun vs s => (evs ks σ s).bind fun ws s => mkV G call c (vs ++ ws) perm s
  | .meth a m es, σ, s => (ev a σ s).bind fun x s => (liftO (methFind G m x s) s 24).bind fun f s => (evs es σ s).bind fun vs s => callV G call f (x :: vs) [] s
  | .calo a m es ks perm, σ, s => (ev a σ s).bind fun x s => (evs es σ s).bind fun vs s => (evs ks σ s).bind fun ws s => (liftO (methFind G m x s) s 24).bind fun f s => callV G call f (x :: (vs ++ ws)) perm s
  | .bm o a es, σ, s => (ev a σ s).bind fun x s => if bmTy s o x then (evs es σ s).bind fun vs s => effO true (prim s o (x :: vs)) s 31 else .bad 53
  | .dget kvs a, σ, s => (ev a σ s).bind fun x s => liftO ((asS x).bind fun k => kvs.lookup k) s 28
  | .din kvs neg a, σ, s => (ev a σ s).bind fun x s => liftO ((asS x).map fun k => .bl (xor neg (kvs.lookup k).isSome)) s 29
  | .comp z elt own t it tst, σ, s => (evI it σ s).bind fun src s =>
      (compS src (fun v s => match asg t v (wipeS σ own) s with
          | .next σ' s => (evT tst σ' s).bind fun k s => if k then (ev elt σ' s).bind fun y s => .ok (some y) s else .ok none s
          | _ => .bad 43) (src.size s + 1) 0 [] s).bind fun vs s => apE z (.new (.lst vs)) s
  | .disp z ds, σ, s => (evd ds σ s).bind fun vs s => effO z (pLst vs) s 31
  | .rev z a, σ, s => (ev a σ s).bind fun x s => revV z x s
def evd : Ds → Sl → SH → R (List PV)
  | .nil, _, s => .ok [] s
  | .item e ds, σ, s => (ev e σ s).bind fun x s => (evd ds σ s).bind fun xs s => .ok (x :: xs) s
  | .star e ds, σ, s => (ev e σ s).bind fun x s => (liftO (seqOf s x) s 91).bind fun ys s => (evd ds σ s).bind fun zs s => .ok (ys ++ zs) s
def evs : Es → Sl → SH → R (List PV)
  | .nil, _, s => .ok [] s
  | .cons e es, σ, s => (ev e σ s).bind fun x s => (evs es σ s).bind fun xs s => .ok (x :: xs) s
def evO : OpI → Sl → SH → R (Option Int)
  | .none, _, s => .ok none s
  | .some e, σ, s => (ev e σ s).bind fun x s => liftO ((asI x).map Option.some) s 37
def evT : IT → Sl → SH → R Bool
  | .yes, _, s => .ok true s
  | .e a, σ, s => (ev a σ s).bind fun x s => liftO (tru s x) s 44
  | .c a, σ, s => (ev a σ s).bind fun x s => (match x with | .bl b => R.ok b s | _ => .bad 44)
  | .and_ a b, σ, s => (evT a σ s).bind fun k s => if k then evT b σ s else .ok false s
  | .or_ a b, σ, s => (evT a σ s).bind fun k s => if k then .ok true s else evT b σ s
  | .not_ a, σ, s => (evT a σ s).bind fun k s => .ok (!k) s
  | .ite c a b, σ, s => (evT c σ s).bind fun k s => if k then evT a σ s else evT b σ s
def evI : It → Sl → SH → R Src
  | .val e, σ, s => (ev e σ s).bind fun x s => liftO (srcOf s x) s 45
  | .range es, σ, s => (evs es σ s).bind fun vs s => liftO (rangeOf vs) s 46
  | .zip a b, σ, s => (ev a σ s).bind fun x s => (ev b σ s).bind fun y s => liftO (zipOf s x y) s 47
  | .enum a, σ, s => (ev a σ s).bind fun x s => liftO (enumOf s x) s 48
def asg : Tg → PV → Sl → SH → Fl
  | .name i, v, σ, s => .next (σ.set i (some v)) s
  | .names is, v, σ, s => match seqOf s v with
    | some xs => (match setSl σ is xs with | some σ' => .next σ' s | none => .bad 49)
    | none => .bad 50
  | .sub a i, v, σ, s => match (ev a σ s).bind fun x s => (ev i σ s).bind fun j s => effO true (setItem s x j v) s 51 with
    | .ok _ s => .next σ s
    | .bad w => .bad w
  | .attr a f, v, σ, s => match (ev a σ s).bind fun x s => effO true (setAttr G s f x v) s 52 with
    | .ok _ s => .next σ s
    | .bad w => .bad w
end

def Fl.andThen (x : Fl) (f : Sl → SH → Fl) : Fl := match x with
  | .next σ s => f σ s
  | y => y
def flE (x : R PV) (f : PV → SH → Fl) : Fl := match x with
  | .ok v s => f v s
  | .bad w => .bad w

mutual
def ex : IS → Sl → SH → Fl
  | .asg t e, σ, s => flE (ev G call e σ s) fun v s => asg G call t v σ s
  | .aug i o e, σ, s => match σ[i]? with
    | some (some x) => flE (ev G call e σ s) fun y s => flE (effO true (binP s o x y) s 11) fun z s => .next (σ.set i (some z)) s
    | _ => .bad 60
  | .ex e, σ, s => flE (ev G call e σ s) fun _ s => .next σ s
  | .ret e, σ, s => flE (ev G call e σ s) fun v s => .ret v s
  | .if_ c a b, σ, s => match evT G call c σ s with
    | .ok true s => exs a σ s
    | .ok false s => exs b σ s
    | .bad w => .bad w
  | .for_ t it b, σ, s => match evI G call it σ s with
    | .ok src s => forS src (fun v σ s => (asg G call t v σ s).andThen fun σ s => exs b σ s) (src.size s + 1) 0 σ s
    | .bad w => .bad w
  | .while_ c b, σ, s => whileS (fun σ s => evT G call c σ s) (fun σ s => exs b σ s) (2 ^ 40) σ s
  | .brk, σ, s => .brk σ s
  | .cont, σ, s => .cont σ s
  | .pass, σ, s => .next σ s
  | .never, _, _ => .bad 61
def exs : Ss → Sl → SH → Fl
  | .nil, σ, s => .next σ s
  | .cons i is, σ, s => (ex i σ s).andThen fun σ s => exs is σ s
end
end

def bindA (F : FnI) (vs : List PV) : Option Sl :=
  if vs.length = F.np then some (vs.map some ++ List.replicate (F.ns - F.np) none) else none
/-- the body, by what calls do -/
def runF (G : Gs) (call : Nat → List PV → SH → R PV) (f : Nat) (vs : List PV) (s : SH) : R PV :=
  match G.fns[f]? with
  | none => .bad 71
  | some F => match bindA F vs with
    | none => .bad 72
    | some σ => match exs G call F.body σ s with
      | .ret v s' => .ok v s'
      | .next _ s' => .ok .non s'
      | .bad w => .bad w
      | _ => .bad 73
/-- what a call gives back: lo: the cells that were handed over; tf: some of the caller's lists were -/
def backV (F : FnI) (tf : Bool) (lo : Nat) (v : PV) (s3 s4 : SH) : R PV :=
  if tf && !(nrV s3 16 v) then .bad 74 else
  if F.fr then (liftO (fzV s3 (fun i => decide (lo ≤ i)) 16 v) s4 75)
  else match v with
    | .ref j => if lo ≤ j then (match s3[j]? with
      | some (.lst xs) => (match xs.mapM (fzV s3 (fun i => decide (lo ≤ i) && decide (i ≠ j)) 16) with
        | some ys => .ok (.ref s4.length) (s4 ++ [.lst ys])
        | none => .bad 76)
      | _ => .bad 77) else .bad 78
    | _ => .bad 79
/-- a call runs on a heap of its own -/
def apart (G : Gs) (run : Nat → List PV → SH → R PV) (f : Nat) (vs : List PV) (s : SH) : R PV :=
  match G.fns[f]? with
  | none => .bad 80
  | some F =>
    if F.mu then match vs with
      | .ref n :: us => match s[n]? with
        | some c => if c.pureB then (match us.mapM (fzV s (fun i => decide (i ≠ n)) 16) with
          | some ws => (match run f (.ref 0 :: ws) [c] with
            | .ok v s3 => (match s3[0]? with
              | some c3 => if !(PV.pureL us) && !(c3.vals.all (nrV s3 16)) then .bad 81 else (match c3.vals.mapM (fzV s3 (fun i => decide (1 ≤ i) && (F.fr || decide (v.refI ≠ some i))) 16) with
                | some xs => backV F (!(PV.pureL us)) 1 v s3 (s.set n (c3.upv xs))
                | none => .bad 82)
              | none => .bad 83)
            | .bad w => .bad w)
          | none => .bad 84) else .bad 85
        | none => .bad 86
      | _ => .bad 87
    else match vs.mapM (fzV s (fun _ => true) 16) with
      | some ws => (match run f ws [] with
        | .ok v s3 => backV F (!(PV.pureL vs)) 0 v s3 s
        | .bad w => .bad w)
      | none => .bad 88
def callF (G : Gs) : Nat → Nat → List PV → SH → R PV
  | 0, _, _, _ => .bad 70
  | d + 1, f, vs, s => apart G (runF G (callF G d)) f vs s
end CS
end CSLang_

section CSComp_

namespace CS
open PySem (Str Expr Stmt Scope NameKind Const Arguments Keyword)

/-- what is known of the text's top -/
structure Cc where
  nm : List Str
  fns : List (Str × Nat × List Str)
  cls : List (Str × Nat × Nat × List Str)
  consts : List (Str × PV)
  bis : List Str
  bs : List (Nat × Nat × List Str × List Nat)
  ms : List (Nat × List Nat)
  ds : List (Str × List (Str × PV))
  sm : List ((Str × Str) × Nat)
  deriving Inhabited

def idOf (C : Cc) (x : Str) : Option Nat := C.nm.findIdx? fun y => decide (y = x)
def slotOf (N : List Str) (x : Str) : Option Nat := N.findIdx? fun y => decide (y = x)
def isLoc (sc : Scope) (x : Str) : Bool := match sc.names.lookup x with
  | some .local => true
  | some .cell => true
  | some .free => true
  | _ => false
def relS (scope sc : Scope) : Scope :=
  { scope with names := scope.names.map fun (n, k) => if (k == .free && sc.kind == .function && sc.names.lookup n == some .cell) then (n, .cell) else (n, k) }
/-- a scope, and which of its cells are its own -/
structure Scp where
  sc : Scope
  fn : Str → Bool
  rz : Bool
  ml : List Nat
def Scp.blk (S : Scp) (scope : Scope) : Scp := ⟨relS scope S.sc, fun x => scope.names.lookup x == some .cell, true, []⟩
def isOwn (sc : Scope) (x : Str) : Bool := match sc.names.lookup x with
  | some .local => true
  | some .cell => true
  | _ => false
def isLocal (sc : Scope) (x : Str) : Bool := match sc.names.lookup x with
  | some .local => true
  | _ => false
def isGlob (sc : Scope) (x : Str) : Bool := match sc.names.lookup x with
  | some .globalImplicit => true
  | _ => false
def notSuper (o : Expr) : Bool := match o with
  | .Call (.Name id _) [] [] _ => id != ("super" : Str)
  | _ => true
def isStar (o : Expr) : Bool := match o with
  | .Starred _ _ => true
  | _ => false
def notComp (o : Expr) : Bool := match o with
  | .ListComp _ _ _ _ => false
  | .SetComp _ _ _ _ => false
  | .DictComp _ _ _ _ _ => false
  | _ => true
def okName (x : Str) : Bool := x != ("__debug__" : Str) && x != ("__classdict__" : Str) && x != ("__name__" : Str)
def tyB (x : Str) : Option Ty :=
  if x = ("int" : Str) then some .int else
  if x = ("bool" : Str) then some .bool else
  if x = ("str" : Str) then some .str else
  if x = ("list" : Str) then some .list else
  if x = ("tuple" : Str) then some .tuple else none
def binOf : PySem.Operator → Option BinO
  | .Add => some .add | .Sub => some .sub | .Mult => some .mul | .FloorDiv => some .fdiv | .Mod => some .mod | .Pow => some .pow
  | .BitOr => some .bor | .BitAnd => some .band | .LShift => some .shl | .RShift => some .shr
  | _ => none
def cmpOf : PySem.CmpOp → Option CmpO
  | .Eq => some .eq | .NotEq => some .ne | .Lt => some .lt | .LtE => some .le | .Gt => some .gt | .GtE => some .ge
  | .Is => some .is_ | .IsNot => some .isnot | .In => some .in_ | .NotIn => some .notin
def constOf : Const → Option PV
  | .none => some .non | .bool b => some (.bl b) | .int i => some (.int i) | .str s => some (.str s) | _ => none
/-- the order of the parameters: positional ones, then keywords -/
def permOf (ps : List Str) (npos : Nat) (ks : List Str) : Option (List Nat) :=
  if ks.length = 0 then some [] else
    let rest := ps.drop npos
    let given := rest.takeWhile fun p => ks.contains p
    if given.length = ks.length then
      (given.mapM fun p => ks.findIdx? fun k => decide (k = p)).map fun js => List.range npos ++ js.map (npos + ·)
    else none
def argsOfK : List Keyword → Option (List Str)
  | [] => some []
  | k :: ks => match k.arg with
    | some x => (argsOfK ks).map (x :: ·)
    | none => none
def tgSlotsC : Tg → List Nat
  | .name i => [i]
  | .names is => is
  | _ => []
def isTupleE (e : Expr) : Bool := match e with | .Tuple _ _ _ => true | _ => false
/-- the names of a comprehension's block with their places -/
def ownOf (N : List Str) (scope : Scope) : List (Str × Nat) := scope.names.filterMap fun y => match y.2 with
  | .local => (slotOf N y.1).map fun i => (y.1, i)
  | .cell => (slotOf N y.1).map fun i => (y.1, i)
  | _ => none
def blkC (N : List Str) (sc scope : Scope) (own : List (Str × Nat)) : Bool :=
  (match scope.kind with | .function => true | _ => false) && (scope.names.all fun y => decide (scope.names.lookup y.1 = some y.2)) && (own.all fun p => decide (N[p.2]? = some p.1)) &&
    (scope.names.all fun y => match y.2 with
      | .free => (match sc.names.lookup y.1 with | some .cell => true | some .free => true | _ => false)
      | .local => decide (y.1 ∈ own.map (·.1)) || decide (y.1 ∉ N)
      | .cell => decide (y.1 ∈ own.map (·.1)) || decide (y.1 ∉ N)
      | _ => true)

section
variable (C : Cc) (N : List Str)
def cTyN (S : Scp) (e : Expr) : Option Ty := match e with
  | .Name x _ => if isGlob S.sc x && okName x then (if C.bis.contains x then tyB x else (C.cls.lookup x).map fun p => .own p.1) else none
  | _ => none
def cTys (S : Scp) : List Expr → Option (List Ty)
  | [] => some []
  | e :: es => (cTyN C S e).bind fun t => (cTys S es).map (t :: ·)
def cTgN (S : Scp) (e : Expr) : Option Nat := match e with
  | .Name x _ => if isOwn S.sc x && (S.fn x || isLocal S.sc x) then slotOf N x else none
  | _ => none
def cTgs (S : Scp) : List Expr → Option (List Nat)
  | [] => some []
  | e :: es => (cTgN N S e).bind fun i => (cTgs S es).map (i :: ·)
/-- a target of names alone -/
def cTn (S : Scp) (e : Expr) : Option Tg := match e with
  | .Name x p => (cTgN N S (.Name x p)).map .name
  | .Tuple es _ _ => (cTgs N S es).map .names
  | _ => none

/-- a table of the top -/
def dicN (S : Scp) (e : Expr) : Option (List (Str × PV)) := match e with
  | .Name x _ => if isGlob S.sc x && okName x then C.ds.lookup x else none
  | _ => none
/-- a static method -/
def smN (S : Scp) (e : Expr) (m : Str) : Option Nat := match e with
  | .Name x _ => if isGlob S.sc x && okName x then C.sm.lookup (x, m) else none
  | _ => none
/-- the own __call__ with so many arguments and such keywords -/
def ownC (n : Nat) (kn : List Str) : Option (Nat × List Nat) := (idOf C ("__call__" : Str)).bind fun m => (C.ms.lookup m).bind fun fs => (fs.head?).bind fun f0 =>
  (C.bs.find? fun q => q.1 == f0 && q.2.1 == n + 1 && q.2.2.1 == kn).bind fun q => if fs.all fun f => C.bs.contains (f, n + 1, kn, q.2.2.2) then some (m, q.2.2.2) else none
def negOf : PySem.CmpOp → Option Bool
  | .In => some false
  | .NotIn => some true
  | _ => none
mutual
def cE : Nat → Bool → Scp → Expr → Option IE
  | 0, _, _, _ => none
  | n + 1, z, S, e => match e with
    | .Constant c _ _ => (constOf c).map .c
    | .Name x _ => if !okName x then none else if isLoc S.sc x then (slotOf N x).map .v else if isGlob S.sc x then (C.consts.lookup x).map .c else none
    | .BinOp a o b _ => (binOf o).bind fun o => (cE n true S a).bind fun a => (cE n true S b).map fun b => .bin z o a b
    | .UnaryOp .USub a _ => (cE n true S a).map fun a => .prim true .neg (.cons a .nil)
    | .UnaryOp .Not a _ => (cE n true S a).map .not_
    | .BoolOp o vs pos => (match vs with
      | [a] => cE n z S a
      | a :: b :: r => (cE n z S a).bind fun a => (cE n z S (.BoolOp o (b :: r) pos)).map fun b => (match o with | .And => .and_ a b | .Or => .or_ a b)
      | [] => none)
    | .Compare a [o] [b] _ => (match dicN C S b with
      | some kvs => (negOf o).bind fun neg => (cE n true S a).map fun a => .din kvs neg a
      | none => (cmpOf o).bind fun o => (cE n true S a).bind fun a => (cE n true S b).map fun b => .cmp o a b)
    | .Compare a [o, p] [b, c] _ => (cmpOf o).bind fun o => (cmpOf p).bind fun p => (cE n true S a).bind fun a => (cE n true S b).bind fun b => (cE n true S c).map fun c => .chain o p a b c
    | .IfExp c a b _ => (cB n S c).bind fun c => (cE n z S a).bind fun a => (cE n z S b).map fun b => .ite c a b
    | .Tuple es _ _ => (cEs n z S es).map fun es => .prim true .tup es
    | .List es _ => if es.any isStar then (cDs n z S es).map fun ds => .disp z ds else (cEs n z S es).map fun es => .prim z .lst es
    | .Subscript a (.Slice none none (some (.UnaryOp .USub (.Constant (.int 1) _ _) _)) _) _ => (cE n true S a).map fun a => .rev z a
    | .Subscript a (.Slice lo hi none _) _ => (cE n true S a).bind fun a => (cO n S lo).bind fun l => (cO n S hi).map fun h => .slice z a l h
    | .Subscript a i _ => (match dicN C S a with
      | some kvs => (cE n true S i).map fun i => .dget kvs i
      | none => (cE n true S a).bind fun a => (cE n true S i).map fun i => .prim true .ix (.cons a (.cons i .nil)))
    | .Attribute a f _ => if notSuper a then (idOf C f).bind fun f => (cE n true S a).map fun a => .attr a f else none
    | .JoinedStr vs _ => if 2 ≤ vs.length then (cFs n S vs).map fun es => .prim true .fmt es else none
    | .ListComp elt [⟨t, it, ifs, 0⟩] scope _ =>
      let own := ownOf N scope
      if blkC N S.sc scope own then
        (cTn N (S.blk scope) t).bind fun tg => if (tgSlotsC tg).all fun i => (own.map (·.2)).contains i then
          (cI n S t it).bind fun it => (cIf n (S.blk scope) ifs).bind fun ts => (cE n z (S.blk scope) elt).map fun e => .comp z e (own.map (·.2)) tg it ts
        else none
      else none
    | .Call (.Name x p) as ks _ => if isGlob S.sc x && okName x then cCall n z S x as ks else cOwn n S (.Name x p) as ks
    | .Call (.Attribute o m apos) as ks pos => if apos.endLine == pos.line && notSuper o then cMeth n S o m as ks else none
    | .Call f as ks _ => cOwn n S f as ks
    | _ => none
/-- a call of a name -/
def cCall : Nat → Bool → Scp → Str → List Expr → List Keyword → Option IE
  | 0, _, _, _, _, _ => none
  | n + 1, z, S, x, as, ks =>
    if C.bis.contains x then
      (match as, ks with
      | [a], [] =>
        if x = ("len" : Str) then (cE n true S a).map fun a => .prim true .len (.cons a .nil)
        else if x = ("abs" : Str) then (cE n true S a).map fun a => .prim true .abs (.cons a .nil)
        else if x = ("int" : Str) then (cE n true S a).map fun a => .prim true .int (.cons a .nil)
        else if x = ("str" : Str) then (cE n true S a).map fun a => .prim true .str (.cons a .nil)
        else if x = ("sum" : Str) then (cE n true S a).map fun a => .prim true .sum (.cons a .nil)
        else if x = ("all" : Str) then (cE n true S a).map fun a => .prim true .all (.cons a .nil)
        else if x = ("any" : Str) then (cE n true S a).map fun a => .prim true .any (.cons a .nil)
        else if x = ("tuple" : Str) then (cE n true S a).map fun a => .prim true .tuple (.cons a .nil)
        else if x = ("list" : Str) then (cE n true S a).map fun a => .prim z .list (.cons a .nil)
        else if x = ("min" : Str) then (cE n true S a).map fun a => .prim true .min1 (.cons a .nil)
        else if x = ("max" : Str) then (cE n true S a).map fun a => .prim true .max1 (.cons a .nil)
        else if x = ("sorted" : Str) then (cE n true S a).map fun a => .prim z .sorted (.cons a .nil)
        else none
      | [a, b], [] =>
        if x = ("isinstance" : Str) then (match b with
          | .Tuple es _ _ => (cTys C S es).bind fun ts => if ts.length = 0 || decide (sizeL < ts.length) then none else (cE n true S a).map fun a => .prim true (.isi ts) (.cons a .nil)
          | b => (cTyN C S b).bind fun t => (cE n true S a).map fun a => .prim true (.isi [t]) (.cons a .nil))
        else if x = ("max" : Str) then (cE n true S a).bind fun a => (cE n true S b).map fun b => .prim true .max (.cons a (.cons b .nil))
        else if x = ("min" : Str) then (cE n true S a).bind fun a => (cE n true S b).map fun b => .prim true .min (.cons a (.cons b .nil))
        else none
      | _, _ => none)
    else match C.fns.lookup x with
      | some (f, ps) => (argsOfK ks).bind fun kn => (permOf ps as.length kn).bind fun perm => if C.bs.contains (f, as.length, kn, perm) then (cEs n true S as).bind fun es => (cKs n S ks).map fun kes => .call f es kes perm else none
      | none => (match C.cls.lookup x with
        | some (c, f, ps) => (argsOfK ks).bind fun kn => (permOf (PySem.Str.empty :: ps) (as.length + 1) kn).bind fun perm => if C.bs.contains (f, as.length + 1, kn, perm) then (cEs n true S as).bind fun es => (cKs n S ks).map fun kes => .mk c es kes perm else none
        | none => none)
/-- a call of an object -/
def cOwn : Nat → Scp → Expr → List Expr → List Keyword → Option IE
  | 0, _, _, _, _ => none
  | n + 1, S, f, as, ks => (argsOfK ks).bind fun kn => (ownC C as.length kn).bind fun mp => (cE n true S f).bind fun a => (cEs n true S as).bind fun es => (cKs n S ks).map fun kes => .calo a mp.1 es kes mp.2
/-- a call of a method -/
def cMeth : Nat → Scp → Expr → Str → List Expr → List Keyword → Option IE
  | 0, _, _, _, _, _ => none
  | n + 1, S, o, m, as, ks => match ks with
    | [] => match smN C S o m with
      | some f => if decide (as.length < 30) && C.bs.contains (f, as.length, [], []) then (cEs n true S as).map fun es => .call f es .nil [] else none
      | none =>
      if m = ("append" : Str) then (match as with
        | [a] => (cE n true S o).bind fun o => (cE n true S a).map fun a => .bm .append o (.cons a .nil)
        | _ => none)
      else if m = ("pop" : Str) then (match as with
        | [a] => (cE n true S o).bind fun o => (cE n true S a).map fun a => .bm .pop o (.cons a .nil)
        | _ => none)
      else if m = ("join" : Str) then (match as with
        | [a] => (cE n true S o).bind fun o => (cE n true S a).map fun a => .bm .join o (.cons a .nil)
        | _ => none)
      else if m = ("split" : Str) then (match as with
        | [a] => (cE n true S o).bind fun o => (cE n true S a).map fun a => .bm .split o (.cons a .nil)
        | _ => none)
      else if m = ("startswith" : Str) then (match as with
        | [a] => (cE n true S o).bind fun o => (cE n true S a).map fun a => .bm .starts o (.cons a .nil)
        | _ => none)
      else if m = ("count" : Str) then (match as with
        | [a] => (cE n true S o).bind fun o => (cE n true S a).map fun a => .bm .count o (.cons a .nil)
        | _ => none)
      else (idOf C m).bind fun mi => (C.ms.lookup mi).bind fun fs => if decide (as.length < 30) && fs.all fun f => C.bs.contains (f, as.length + 1, [], []) then
          (cE n true S o).bind fun o => (cEs n true S as).map fun es => .meth o mi es
        else none
    | _ => none
/-- a test -/
def cB : Nat → Scp → Expr → Option IT
  | 0, _, _ => none
  | n + 1, S, e => match e with
    | .UnaryOp .Not a _ => (cB n S a).map .not_
    | .BoolOp o vs pos => cW n S o vs pos
    | .IfExp c a b _ => (cB n S c).bind fun c => (cB n S a).bind fun a => (cB n S b).map fun b => .ite c a b
    | .Compare a os bs p => (cE n true S (.Compare a os bs p)).map .c
    | e => (cE n true S e).map .e
/-- and, or as a test -/
def cW : Nat → Scp → PySem.BoolOp → List Expr → PySem.Pos → Option IT
  | 0, _, _, _, _ => none
  | n + 1, S, o, vs, pos => match vs with
    | [a] => cB n S a
    | a :: b :: r => (cB n S a).bind fun a => (cW n S o (b :: r) pos).map fun b => (match o with | .And => .and_ a b | .Or => .or_ a b)
    | [] => none
def cIf : Nat → Scp → List Expr → Option IT
  | 0, _, _ => none
  | n + 1, S, ifs => match ifs with
    | [] => some .yes
    | [c] => cB n S c
    | _ => none
def cEs : Nat → Bool → Scp → List Expr → Option Es
  | 0, _, _, _ => none
  | n + 1, z, S, es => match es with
    | [] => some .nil
    | e :: es => (cE n z S e).bind fun e => (cEs n z S es).map fun es => .cons e es
def cDs : Nat → Bool → Scp → List Expr → Option Ds
  | 0, _, _, _ => none
  | n + 1, z, S, es => match es with
    | [] => some .nil
    | .Starred e _ :: es => (cE n true S e).bind fun e => (cDs n z S es).map fun ds => .star e ds
    | e :: es => (cE n z S e).bind fun e => (cDs n z S es).map fun ds => .item e ds
def cKs : Nat → Scp → List Keyword → Option Es
  | 0, _, _ => none
  | n + 1, S, ks => match ks with
    | [] => some .nil
    | k :: ks => (cE n true S k.value).bind fun e => (cKs n S ks).map fun es => .cons e es
def cO : Nat → Scp → Option Expr → Option OpI
  | 0, _, _ => none
  | n + 1, S, o => match o with
    | none => some .none
    | some e => (cE n true S e).map .some
def cFs : Nat → Scp → List Expr → Option Es
  | 0, _, _ => none
  | n + 1, S, es => match es with
    | [] => some .nil
    | .Constant (.str s) _ _ :: es => (cFs n S es).map fun es => .cons (.c (.str s)) es
    | .FormattedValue e (-1) none _ :: es => (cE n true S e).bind fun e => (cFs n S es).map fun es => .cons e es
    | _ => none
/-- what a loop walks; t: the target -/
def cI : Nat → Scp → Expr → Expr → Option It
  | 0, _, _, _ => none
  | n + 1, S, t, e => match e with
    | .Call (.Name x p) as ks pos =>
      if isGlob S.sc x && C.bis.contains x && ks.isEmpty && decide (x = ("range" : Str)) then (if as.length = 1 || as.length = 2 then (cEs n true S as).map .range else none)
      else if isGlob S.sc x && C.bis.contains x && ks.isEmpty && decide (x = ("zip" : Str)) && isTupleE t then (match as with
        | [a, b] => (cE n true S a).bind fun a => (cE n true S b).map fun b => .zip a b
        | _ => none)
      else if isGlob S.sc x && C.bis.contains x && ks.isEmpty && decide (x = ("enumerate" : Str)) && isTupleE t then (match as with
        | [a] => (cE n true S a).map .enum
        | _ => none)
      else (cE n true S (.Call (.Name x p) as ks pos)).map .val
    | e => (cE n true S e).map .val
end

def parF (S : Scp) (line : Nat) (t : Expr) : Option Str := match t with
  | .Name id pos => if S.sc.names.lookup id == some .local && pos.line == line then some id else none
  | _ => none
/-- the names that a tuple of values is stored to from the right -/
def parNames (S : Scp) (ts vs : List Expr) : Option (List Str) :=
  if !(ts.length == 2 || ts.length == 3) || vs.length != ts.length then none
  else
    let line := (ts.head?.map (·.pos.line)).getD 0
    let names := ts.filterMap (parF S line)
    if names.length != ts.length || names.eraseDups.length != names.length then none
    else if vs.all (PySem.foldedForSure 8) then none
    else some names

/-- stores whose order is known -/
def parOk (S : Scp) (ts : List Expr) (e : Expr) : Bool := match e with
  | .Tuple vs _ _ => (match parNames S ts vs with
    | none => true
    | some _ => !(vs.all (PySem.constantsAlone 8)))
  | _ => true
mutual
def cS : Nat → Scp → Stmt → Option IS
  | 0, _, _ => none
  | n + 1, S, st => match st with
    | .Assign [.Name x px] e _ => (cTgN N S (.Name x px)).bind fun i => (cE C N n (!(S.ml.contains i)) S e).map fun e => .asg (.name i) e
    | .Assign [.Tuple ts _ _] e _ => if parOk S ts e then (cTgs N S ts).bind fun is => (cE C N n (!(is.any S.ml.contains)) S e).map fun e => .asg (.names is) e else none
    | .Assign [.Subscript a i _] e _ => (match i with
      | .Slice _ _ _ _ => none
      | i => (cE C N n true S a).bind fun a => (cE C N n true S i).bind fun i => (cE C N n true S e).map fun e => .asg (.sub a i) e)
    | .Assign [.Attribute a f _] e _ => (idOf C f).bind fun f => (cE C N n true S a).bind fun a => (cE C N n true S e).map fun e => .asg (.attr a f) e
    | .Expr e _ => if notComp e then (cE C N n true S e).map .ex else none
    | .Return (some e) _ => (cE C N n S.rz S e).map .ret
    | .If c a b _ => (cB C N n S c).bind fun c => (cSs n S a).bind fun a => (cSs n S b).map fun b => .if_ c a b
    | .For t it b [] _ => (cTn N S t).bind fun tg => (cI C N n S t it).bind fun it => (cSs n S b).map fun b => .for_ tg it b
    | .While c b [] _ => (cB C N n S c).bind fun c => (cSs n S b).map fun b => .while_ c b
    | .Break _ => some .brk
    | .Continue _ => some .cont
    | .Pass _ => some .pass
    | .Raise _ _ _ => some .never
    | _ => none
def cSs : Nat → Scp → List Stmt → Option Ss
  | 0, _, _ => none
  | n + 1, S, ss => match ss with
    | [] => some .nil
    | s :: ss => (cSs n S ss).map fun ss => .cons ((cS n S s).getD .never) ss
end
end

/-! ### building the tables of a text (for printing; what a proof needs is checked def by def) -/
def argNames (a : Arguments) : List Str := a.args.map (·.arg)
mutual
def compNamesE : Nat → Expr → List Str
  | 0, _ => []
  | n + 1, e => match e with
    | .ListComp elt gs scope _ => (scope.names.filterMap fun y => match y.2 with | .local => some y.1 | .cell => some y.1 | _ => none) ++ compNamesE n elt ++ gs.flatMap fun g => compNamesE n g.iter ++ g.ifs.flatMap (compNamesE n)
    | .BoolOp _ vs _ => vs.flatMap (compNamesE n)
    | .BinOp a _ b _ => compNamesE n a ++ compNamesE n b
    | .UnaryOp _ a _ => compNamesE n a
    | .IfExp a b c _ => compNamesE n a ++ compNamesE n b ++ compNamesE n c
    | .Compare a _ cs _ => compNamesE n a ++ cs.flatMap (compNamesE n)
    | .Call f as ks _ => compNamesE n f ++ as.flatMap (compNamesE n) ++ ks.flatMap fun k => compNamesE n k.value
    | .Attribute a _ _ => compNamesE n a
    | .Subscript a b _ => compNamesE n a ++ compNamesE n b
    | .Tuple es _ _ => es.flatMap (compNamesE n)
    | .List es _ => es.flatMap (compNamesE n)
    | .Starred e _ => compNamesE n e
    | _ => []
end
def compNamesS : Nat → Stmt → List Str
  | 0, _ => []
  | n + 1, s => match s with
    | .Assign ts e _ => ts.flatMap (compNamesE n) ++ compNamesE n e
    | .AugAssign _ _ e _ => compNamesE n e
    | .Expr e _ => compNamesE n e
    | .Return (some e) _ => compNamesE n e
    | .If c a b _ => compNamesE n c ++ a.flatMap (compNamesS n) ++ b.flatMap (compNamesS n)
    | .For _ it b _ _ => compNamesE n it ++ b.flatMap (compNamesS n)
    | .While c b _ _ => compNamesE n c ++ b.flatMap (compNamesS n)
    | _ => []
def dedup : List Str → List Str
  | [] => []
  | x :: r => x :: (dedup r).filter fun y => decide (y ≠ x)
def namesOf (st : Stmt) : List Str := match st with
  | .FunctionDef _ a b _ _ _ sc _ _ _ => dedup (argNames a ++ (sc.names.filterMap fun y => match y.2 with | .local => some y.1 | .cell => some y.1 | _ => none) ++ b.flatMap (compNamesS 60))
  | _ => []
end CS
end CSComp_

section CSRel_
set_option maxRecDepth 100000
namespace CS
open PySem L2

/-- the class addresses, the attributes' names, the classes' fields -/
structure Nm where
  ca : Nat → Addr
  nm : List Str
  nc : Nat
  fl : Nat → List Nat
def nmOf (B : Nm) (k : Nat) : Str := B.nm.getD k Str.empty
/-- where cells stand, and what stays as it is -/
structure Mp where
  at_ : Nat → Addr
  fz : Addr → Prop
  nb : Nm
instance : CoeFun Mp fun _ => Nat → Addr := ⟨Mp.at_⟩
/-- a list that nothing changes -/
def RoL (K : PySem.W.Frag) (H : Hp) (p : Addr) (vs : List V) : Prop :=
  (∃ o, H p = some (.frz o (.lst vs))) ∨
    ∃ (o : Obj) (its : Array Value) (n : Nat), K.lookup p = some o ∧ o.cls = .type "list" ∧ o.dict = none ∧ o.data = .seq its n ∧ its.size ≤ sizeLine ∧ Vals vs its.toList
theorem RoL.sq {K : PySem.W.Frag} {H : Hp} {p : Addr} {vs : List V} (h : RoL K H p vs) : SqL K H p vs := by
  rcases h with ⟨o, h⟩ | h
  · exact .inl (.inr ⟨o, h⟩)
  · exact .inr h

/-- a tuple: tracked, or the empty one of the written part -/
def TupR (K : PySem.W.Frag) (H : Hp) (p : Addr) (vs : List V) : Prop := H p = some (.tup vs) ∨ (vs = [] ∧ ∃ (o : Obj) (n : Nat), K.lookup p = some o ∧ o.cls = .type "tuple" ∧ o.data = .seq #[] n)
theorem TupR.sq {K : PySem.W.Frag} {H : Hp} {p : Addr} {vs : List V} (h : TupR K H p vs) : SqT K H p vs := by
  rcases h with h | ⟨rfl, o, n, h1, h2, h3⟩
  · exact .inl (.inl h)
  · exact .inr ⟨o, #[], n, h1, h2, h3, Nat.zero_le _, .nil⟩
section
variable (K : PySem.W.Frag) (m : Mp) (n : Nat) (H : Hp)
mutual
/-- a value and what it is in the machine -/
def RV : PV → V → Prop
  | .non, x => x = .non
  | .bl b, x => x = .bl b
  | .int i, x => x = .int i
  | .str s, x => x = .str s
  | .ref i, x => i < n ∧ x = .ref (m i)
  | .tup xs, x => ∃ p vs, x = .ref p ∧ TupR K H p vs ∧ RVs xs vs
  | .scr xs, x => ∃ p vs, x = .ref p ∧ RoL K H p vs ∧ RVs xs vs
  | .rol xs, x => ∃ p vs, x = .ref p ∧ m.fz p ∧ H p = some (.lst vs) ∧ RVs xs vs
  | .obj c xs, x => ∃ p dx gs, x = .ref p ∧ m.fz p ∧ H p = some (.ins (m.nb.ca c) dx gs) ∧ c < m.nb.nc ∧ gs.map (·.1) = (m.nb.fl c).map (nmOf m.nb) ∧ (∀ k ∈ m.nb.fl c, k < m.nb.nm.length) ∧ RVs xs (gs.map (·.2))
def RVs : List PV → List V → Prop
  | [], vs => vs = []
  | x :: xs, vs => ∃ v r, vs = v :: r ∧ RV x v ∧ RVs xs r
end
end

def RVf (B : Nm) (K : PySem.W.Frag) (m : Mp) (n : Nat) (H : Hp) : List (Nat × PV) → List (Str × V) → Prop
  | [], gs => gs = []
  | (k, v) :: r, gs => ∃ x q, gs = (nmOf B k, x) :: q ∧ k < B.nm.length ∧ RV K m n H v x ∧ RVf B K m n H r q
def CellOk (B : Nm) (K : PySem.W.Frag) (m : Mp) (n : Nat) (H : Hp) (a : Addr) : Cell → Prop
  | .lst xs => ∃ vs, H a = some (.lst vs) ∧ RVs K m n H xs vs
  | .ins c fs => ∃ dx gs, H a = some (.ins (B.ca c) dx gs) ∧ c < B.nc ∧ RVf B K m n H fs gs
structure Match (B : Nm) (K : PySem.W.Frag) (m : Mp) (s : SH) (H : Hp) : Prop where
  nb : m.nb = B
  nf : ∀ i, i < s.length → ¬ m.fz (m i)
  fx : ∀ a, m.fz a → ∃ o, H a = some o
  inj : ∀ i j, i < s.length → j < s.length → m i = m j → i = j
  cl : ∀ i c, s[i]? = some c → CellOk B K m s.length H (m i) c
/-- from one state to a later one -/
structure Go (B : Nm) (K : PySem.W.Frag) (m : Mp) (s : SH) (H : Hp) (m' : Mp) (s' : SH) (H' : Hp) : Prop where
  fzm : ∀ a, m.fz a → m'.fz a
  fzn : ∀ a, m'.fz a → m.fz a ∨ H a = none
  len : s.length ≤ s'.length
  ag : ∀ i, i < s.length → m' i = m i
  fr : ∀ j, s.length ≤ j → j < s'.length → H (m' j) = none
  kp : ∀ a o, H a = some o → (∀ i, i < s.length → a ≠ m i) → H' a = some o
  mt : Match B K m' s' H'

section
variable {B : Nm} {K : PySem.W.Frag} {m m' m'' : Mp} {s s' s'' : SH} {H H' H'' : Hp} {n n' : Nat}

theorem CellOk.ex {a : Addr} {c : Cell} (h : CellOk B K m n H a c) : ∃ o, H a = some o := by
  cases c with
  | lst xs => obtain ⟨vs, e, _⟩ := h; exact ⟨_, e⟩
  | ins c fs => obtain ⟨dx, gs, e, _⟩ := h; exact ⟨_, e⟩
theorem Match.ex (M : Match B K m s H) {i : Nat} (hi : i < s.length) : ∃ o, H (m i) = some o :=
  (M.cl i s[i] (by simp [hi])).ex
/-- a tuple, a frozen thing, is no cell -/
theorem Match.ne_tup (M : Match B K m s H) {p : Addr} {vs : List V} (h : H p = some (.tup vs)) : ∀ i, i < s.length → p ≠ m i := fun i hi e => by
  have q := M.cl i s[i] (by simp [hi])
  rw [e] at h
  cases hc : s[i] with
  | lst xs => rw [hc] at q; obtain ⟨vs, e, _⟩ := q; rw [h] at e; cases e
  | ins c fs => rw [hc] at q; obtain ⟨dx, gs, e, _⟩ := q; rw [h] at e; cases e
theorem Match.ne_frz (M : Match B K m s H) {p : Addr} {o : Obj} {u : HO} (h : H p = some (.frz o u)) : ∀ i, i < s.length → p ≠ m i := fun i hi e => by
  have q := M.cl i s[i] (by simp [hi])
  rw [e] at h
  cases hc : s[i] with
  | lst xs => rw [hc] at q; obtain ⟨vs, e, _⟩ := q; rw [h] at e; cases e
  | ins c fs => rw [hc] at q; obtain ⟨dx, gs, e, _⟩ := q; rw [h] at e; cases e

/-- what stays is no cell -/
theorem Match.ne_fz (M : Match B K m s H) {p : Addr} (h : m.fz p) : ∀ i, i < s.length → p ≠ m i := fun i hi e => M.nf i hi (e ▸ h)
theorem Go.refl (M : Match B K m s H) : Go B K m s H m s H :=
  ⟨fun _ h => h, fun _ h => .inl h, Nat.le_refl _, fun _ _ => rfl, fun j h1 h2 => absurd h2 (Nat.not_lt.mpr h1), fun _ _ e _ => e, M⟩
theorem Go.trans (M : Match B K m s H) (a : Go B K m s H m' s' H') (b : Go B K m' s' H' m'' s'' H'') : Go B K m s H m'' s'' H'' where
  fzm := fun c h => b.fzm c (a.fzm c h)
  fzn := fun c h => by
    rcases b.fzn c h with h1 | h1
    · exact a.fzn c h1
    · cases q : H c with
      | none => exact .inr rfl
      | some o =>
        exfalso
        by_cases hc : ∃ i, i < s.length ∧ c = m i
        · obtain ⟨i, hi, e⟩ := hc
          obtain ⟨o', e'⟩ := a.mt.ex (Nat.lt_of_lt_of_le hi a.len)
          rw [a.ag i hi, ← e, h1] at e'; cases e'
        · rw [a.kp c o q fun i hi e => hc ⟨i, hi, e⟩] at h1; cases h1
  len := Nat.le_trans a.len b.len
  ag := fun i hi => (b.ag i (Nat.lt_of_lt_of_le hi a.len)).trans (a.ag i hi)
  fr := fun j h1 h2 => by
    by_cases hj : j < s'.length
    · rw [b.ag j hj]; exact a.fr j h1 hj
    · cases q : H (m'' j) with
      | none => rfl
      | some o =>
        have z := b.fr j (Nat.not_lt.mp hj) h2
        by_cases he : ∃ i, i < s.length ∧ m'' j = m i
        · obtain ⟨i, hi, e⟩ := he
          obtain ⟨o', e'⟩ := a.mt.ex (Nat.lt_of_lt_of_le hi a.len)
          rw [a.ag i hi, ← e, z] at e'; cases e'
        · rw [a.kp _ o q fun i hi e => he ⟨i, hi, e⟩] at z; cases z
  kp := fun c o e hc => by
    refine b.kp c o (a.kp c o e hc) fun i hi q => ?_
    by_cases h : i < s.length
    · exact hc i h (q.trans (a.ag i h))
    · rw [q, a.fr i (Nat.not_lt.mp h) hi] at e; cases e
  mt := b.mt

/-- what a value leans on -/
structure Le (K : PySem.W.Frag) (m : Mp) (n : Nat) (H : Hp) (m' : Mp) (n' : Nat) (H' : Hp) : Prop where
  nb : m'.nb = m.nb
  fz : ∀ p o, m.fz p → H p = some o → m'.fz p ∧ H' p = some o
  len : n ≤ n'
  ag : ∀ i, i < n → m' i = m i
  tup : ∀ p vs, H p = some (.tup vs) → H' p = some (.tup vs)
  frz : ∀ p o u, H p = some (.frz o u) → H' p = some (.frz o u)
theorem Go.le (M : Match B K m s H) (g : Go B K m s H m' s' H') : Le K m s.length H m' s'.length H' :=
  ⟨g.mt.nb.trans M.nb.symm, fun p o h e => ⟨g.fzm p h, g.kp p o e (M.ne_fz h)⟩, g.len, g.ag, fun p vs e => g.kp p _ e (M.ne_tup e), fun p o u e => g.kp p _ e (M.ne_frz e)⟩
theorem TupR.le {p : Addr} {vs : List V} (l : Le K m n H m' n' H') (h : TupR K H p vs) : TupR K H' p vs := by
  rcases h with h | h
  · exact .inl (l.tup _ _ h)
  · exact .inr h
theorem RoL.le {p : Addr} {vs : List V} (l : Le K m n H m' n' H') (h : RoL K H p vs) : RoL K H' p vs := by
  rcases h with ⟨o, h⟩ | h
  · exact .inl ⟨o, l.frz _ _ _ h⟩
  · exact .inr h
mutual
theorem RV.le (l : Le K m n H m' n' H') : ∀ (v : PV) (x : V), RV K m n H v x → RV K m' n' H' v x
  | .non, _, h => h
  | .bl _, _, h => h
  | .int _, _, h => h
  | .str _, _, h => h
  | .ref i, _, h => ⟨Nat.lt_of_lt_of_le h.1 l.len, by rw [l.ag i h.1]; exact h.2⟩
  | .tup xs, _, h => let ⟨p, vs, e, q, r⟩ := h; ⟨p, vs, e, TupR.le l q, RVs.le l xs vs r⟩
  | .scr xs, _, h => let ⟨p, vs, e, q, r⟩ := h; ⟨p, vs, e, RoL.le l q, RVs.le l xs vs r⟩
  | .rol xs, _, h => let ⟨p, vs, e, z, q, r⟩ := h; ⟨p, vs, e, (l.fz p _ z q).1, (l.fz p _ z q).2, RVs.le l xs vs r⟩
  | .obj c xs, _, h => by
    obtain ⟨p, dx, gs, e, z, q, hc, hf, hk, r⟩ := h
    refine ⟨p, dx, gs, e, (l.fz p _ z q).1, ?_, ?_, ?_, ?_, RVs.le l xs _ r⟩
    · rw [l.nb]; exact (l.fz p _ z q).2
    · rw [l.nb]; exact hc
    · rw [l.nb]; exact hf
    · rw [l.nb]; exact hk
theorem RVs.le (l : Le K m n H m' n' H') : ∀ (xs : List PV) (vs : List V), RVs K m n H xs vs → RVs K m' n' H' xs vs
  | [], _, h => h
  | x :: xs, _, h => let ⟨v, r, e, h1, h2⟩ := h; ⟨v, r, e, RV.le l x v h1, RVs.le l xs r h2⟩
end
theorem RVf.le (l : Le K m n H m' n' H') : ∀ (fs : List (Nat × PV)) (gs : List (Str × V)), RVf B K m n H fs gs → RVf B K m' n' H' fs gs
  | [], _, h => h
  | (k, v) :: r, _, h => let ⟨x, q, e, hk, h1, h2⟩ := h; ⟨x, q, e, hk, RV.le l v x h1, RVf.le l r q h2⟩

theorem RVs.length : ∀ {xs : List PV} {vs : List V}, RVs K m n H xs vs → vs.length = xs.length
  | [], _, h => by rw [show _ = [] from h]; rfl
  | x :: xs, _, h => by obtain ⟨v, r, e, _, h2⟩ := h; rw [e, List.length_cons, List.length_cons, RVs.length h2]
theorem RVs.get : ∀ {xs : List PV} {vs : List V} {i : Nat} {x : PV}, RVs K m n H xs vs → xs[i]? = some x → ∃ v, vs[i]? = some v ∧ RV K m n H x v
  | [], _, _, _, _, e => by simp at e
  | y :: xs, _, 0, x, h, e => by
    obtain ⟨v, r, rfl, h1, _⟩ := h
    simp at e; subst e; exact ⟨v, rfl, h1⟩
  | y :: xs, _, i + 1, x, h, e => by
    obtain ⟨v, r, rfl, _, h2⟩ := h
    obtain ⟨w, e1, e2⟩ := RVs.get (i := i) h2 (by simpa using e)
    exact ⟨w, by simpa using e1, e2⟩
theorem RVs.append : ∀ {xs ys : List PV} {vs ws : List V}, RVs K m n H xs vs → RVs K m n H ys ws → RVs K m n H (xs ++ ys) (vs ++ ws)
  | [], _, _, _, h, h' => by rw [show _ = [] from h]; exact h'
  | x :: xs, ys, _, ws, h, h' => by
    obtain ⟨v, r, rfl, h1, h2⟩ := h
    exact ⟨v, r ++ ws, rfl, h1, RVs.append h2 h'⟩
theorem RVs.one {x : PV} {v : V} (h : RV K m n H x v) : RVs K m n H [x] [v] := ⟨v, [], rfl, h, rfl⟩
theorem RVs.two {x y : PV} {v w : V} (h : RV K m n H x v) (h' : RV K m n H y w) : RVs K m n H [x, y] [v, w] := ⟨v, [w], rfl, h, w, [], rfl, h', rfl⟩
theorem RVs.take : ∀ (k : Nat) {xs : List PV} {vs : List V}, RVs K m n H xs vs → RVs K m n H (xs.take k) (vs.take k)
  | 0, _, _, _ => by simp [RVs]
  | k + 1, [], _, h => by rw [show _ = [] from h]; simp [RVs]
  | k + 1, x :: xs, _, h => by
    obtain ⟨v, r, rfl, h1, h2⟩ := h
    exact ⟨v, r.take k, rfl, h1, RVs.take k h2⟩
theorem RVs.drop : ∀ (k : Nat) {xs : List PV} {vs : List V}, RVs K m n H xs vs → RVs K m n H (xs.drop k) (vs.drop k)
  | 0, _, _, h => h
  | k + 1, [], _, h => by rw [show _ = [] from h]; simp [RVs]
  | k + 1, x :: xs, _, h => by
    obtain ⟨v, r, rfl, _, h2⟩ := h
    exact RVs.drop k h2
theorem RVs.set : ∀ (k : Nat) {xs : List PV} {vs : List V} {x : PV} {v : V}, RVs K m n H xs vs → RV K m n H x v → RVs K m n H (xs.set k x) (vs.set k v)
  | _, [], _, _, _, h, _ => by rw [show _ = [] from h]; simp [RVs]
  | 0, y :: xs, _, x, v, h, h' => by
    obtain ⟨w, r, rfl, _, h2⟩ := h
    exact ⟨v, r, rfl, h', h2⟩
  | k + 1, y :: xs, _, x, v, h, h' => by
    obtain ⟨w, r, rfl, h1, h2⟩ := h
    exact ⟨w, r.set k v, rfl, h1, RVs.set k h2 h'⟩
theorem RVs.erase : ∀ (k : Nat) {xs : List PV} {vs : List V}, RVs K m n H xs vs → RVs K m n H (xs.eraseIdx k) (vs.eraseIdx k)
  | _, [], _, h => by rw [show _ = [] from h]; simp [RVs]
  | 0, y :: xs, _, h => by
    obtain ⟨w, r, rfl, _, h2⟩ := h
    exact h2
  | k + 1, y :: xs, _, h => by
    obtain ⟨w, r, rfl, h1, h2⟩ := h
    exact ⟨w, r.eraseIdx k, rfl, h1, RVs.erase k h2⟩
theorem RVs.reps : ∀ (k : Nat) {xs : List PV} {vs : List V}, RVs K m n H xs vs → RVs K m n H (List.replicate k xs).flatten (List.replicate k vs).flatten
  | 0, _, _, _ => rfl
  | k + 1, xs, vs, h => by
    rw [List.replicate_succ, List.replicate_succ, List.flatten_cons, List.flatten_cons]
    exact RVs.append h (RVs.reps k h)
theorem CellOk.le {a : Addr} {c : Cell} (l : Le K m n H m' n' H') (he : H' a = H a) (h : CellOk B K m n H a c) : CellOk B K m' n' H' a c := by
  cases c with
  | lst xs => obtain ⟨vs, e, r⟩ := h; exact ⟨vs, he.trans e, RVs.le l _ _ r⟩
  | ins c fs => obtain ⟨dx, gs, e, hc, r⟩ := h; exact ⟨dx, gs, he.trans e, hc, RVf.le l _ _ r⟩

/-- more is tracked, nothing else has changed -/
theorem Go.more (M : Match B K m s H) (h : ∀ a o, H a = some o → H' a = some o) : Go B K m s H m s H' := by
  have l : Le K m s.length H m s.length H' := ⟨rfl, fun p o z e => ⟨z, h _ _ e⟩, Nat.le_refl _, fun _ _ => rfl, fun p vs e => h _ _ e, fun p o u e => h _ _ e⟩
  refine ⟨fun _ h => h, fun _ h => .inl h, Nat.le_refl _, fun _ _ => rfl, fun j h1 h2 => absurd h2 (Nat.not_lt.mpr h1), fun a o e _ => h a o e, ⟨M.nb, M.nf, fun a z => let ⟨o, e⟩ := M.fx a z; ⟨o, h a o e⟩, M.inj, fun i c e => ?_⟩⟩
  have hi : i < s.length := (List.getElem?_eq_some_iff.mp e).1
  obtain ⟨o, eo⟩ := M.ex hi
  exact (M.cl i c e).le l ((h _ _ eo).trans eo.symm)
theorem Go.upd (M : Match B K m s H) {p : Addr} {o : HO} (hp : H p = none) : Go B K m s H m s (upd H p o) :=
  Go.more M fun a u e => by rw [upd_ne (ne_of_none e hp)]; exact e

/-- a new cell -/
def extM (m : Mp) (n : Nat) (p : Addr) : Mp := ⟨fun i => if i = n then p else m i, m.fz, m.nb⟩
theorem extM_old {i : Nat} {p : Addr} (h : i < n) : extM m n p i = m i := by show (if i = n then p else m i) = m i; rw [if_neg (Nat.ne_of_lt h)]
theorem extM_new {p : Addr} : extM m n p n = p := by show (if n = n then p else m n) = p; rw [if_pos rfl]
/-- p is tracked, as the new cell says; all else is kept -/
theorem Go.cell (M : Match B K m s H) {p : Addr} {c : Cell} (hp : H p = none) (h : ∀ a o, H a = some o → H' a = some o)
    (hc : CellOk B K (extM m s.length p) (s ++ [c]).length H' p c) : Go B K m s H (extM m s.length p) (s ++ [c]) H' := by
  have l : Le K m s.length H (extM m s.length p) (s ++ [c]).length H' := ⟨rfl, fun p o z e => ⟨z, h _ _ e⟩, by simp, fun i hi => extM_old hi, fun p vs e => h _ _ e, fun p o u e => h _ _ e⟩
  have ne : ∀ i, i < s.length → m i ≠ p := fun i hi e => by
    obtain ⟨o, eo⟩ := M.ex hi
    rw [e, hp] at eo; cases eo
  refine ⟨fun _ h => h, fun _ h => .inl h, by simp, fun i hi => extM_old hi, fun j h1 h2 => ?_, fun a o e _ => h a o e, ⟨M.nb, fun i hi z => ?_, fun a z => let ⟨o, e⟩ := M.fx a z; ⟨o, h a o e⟩, fun i j hi hj e => ?_, fun i d e => ?_⟩⟩
  rotate_left
  · simp only [List.length_append, List.length_singleton] at hi
    by_cases h1 : i < s.length
    · rw [extM_old h1] at z; exact M.nf i h1 z
    · have : i = s.length := by omega
      rw [this, extM_new] at z
      obtain ⟨o, e⟩ := M.fx p z
      rw [hp] at e; cases e
  rotate_left
  rotate_left
  · have : j = s.length := by simp at h2; omega
    rw [this, extM_new]; exact hp
  · simp only [List.length_append, List.length_singleton] at hi hj
    by_cases h1 : i < s.length
    · by_cases h2 : j < s.length
      · rw [extM_old h1, extM_old h2] at e; exact M.inj i j h1 h2 e
      · have : j = s.length := by omega
        rw [this, extM_old h1, extM_new] at e; exact absurd e (ne i h1)
    · have e1 : i = s.length := by omega
      by_cases h2 : j < s.length
      · rw [e1, extM_old h2, extM_new] at e; exact absurd e.symm (ne j h2)
      · omega
  · by_cases h1 : i < s.length
    · rw [List.getElem?_append_left h1] at e
      rw [extM_old h1]
      obtain ⟨o, eo⟩ := M.ex h1
      exact (M.cl i d e).le l ((h _ _ eo).trans eo.symm)
    · rw [List.getElem?_append_right (Nat.not_lt.mp h1)] at e
      have e0 : i - s.length = 0 := by
        cases q : i - s.length with
        | zero => rfl
        | succ k => rw [q] at e; simp at e
      have ei : i = s.length := by omega
      rw [e0] at e
      simp at e
      subst e
      rw [ei, extM_new]; exact hc
/-- a cell is written -/
theorem Go.write (M : Match B K m s H) {k : Nat} {o : HO} {c : Cell} (hk : k < s.length) (nt : ∀ vs, H (m k) ≠ some (.tup vs)) (nf : ∀ o u, H (m k) ≠ some (.frz o u))
    (hc : Le K m s.length H m s.length (L2.upd H (m k) o) → CellOk B K m s.length (L2.upd H (m k) o) (m k) c) : Go B K m s H m (s.set k c) (L2.upd H (m k) o) := by
  have l : Le K m s.length H m s.length (L2.upd H (m k) o) := ⟨rfl, fun p u z e => ⟨z, by rw [upd_ne (M.ne_fz z k hk)]; exact e⟩, Nat.le_refl _, fun _ _ => rfl, fun p vs e => by
    rw [upd_ne (fun q : p = m k => nt vs (by rw [← q]; exact e))]; exact e, fun p ob u e => by
    rw [upd_ne (fun q : p = m k => nf ob u (by rw [← q]; exact e))]; exact e⟩
  refine ⟨fun _ h => h, fun _ h => .inl h, by simp, fun _ _ => rfl, fun j h1 h2 => absurd h2 (by simp; exact h1), fun a u e ha => by rw [upd_ne (ha k hk)]; exact e, ⟨M.nb, fun i hi => M.nf i (by simpa using hi), fun a z => let ⟨q, e⟩ := M.fx a z; ⟨q, by rw [upd_ne (M.ne_fz z k hk)]; exact e⟩, fun i j hi hj => M.inj i j (by simpa using hi) (by simpa using hj), fun i d e => ?_⟩⟩
  rw [List.length_set]
  by_cases hi : k = i
  · subst hi
    rw [List.getElem?_set_self hk] at e
    cases e
    exact hc l
  · rw [List.getElem?_set_ne hi] at e
    have h1 : i < s.length := (List.getElem?_eq_some_iff.mp e).1
    refine (M.cl i d e).le l (upd_ne fun q => hi ?_)
    exact (M.inj i k h1 hk q).symm
/-- more stays as it is -/
def frzM (m : Mp) (p : Addr) : Mp := ⟨m.at_, fun a => m.fz a ∨ a = p, m.nb⟩
theorem Go.froze (M : Match B K m s H) {p : Addr} {o : HO} (hp : H p = none) : Go B K m s H (frzM m p) s (L2.upd H p o) := by
  have hk : ∀ a u, H a = some u → L2.upd H p o a = some u := fun a u e => by rw [upd_ne (ne_of_none e hp)]; exact e
  have l : Le K m s.length H (frzM m p) s.length (L2.upd H p o) := ⟨rfl, fun q u z e => ⟨.inl z, hk _ _ e⟩, Nat.le_refl _, fun _ _ => rfl, fun q vs e => hk _ _ e, fun q o u e => hk _ _ e⟩
  refine ⟨fun _ h => .inl h, fun a h => ?_, Nat.le_refl _, fun _ _ => rfl, fun j h1 h2 => absurd h2 (Nat.not_lt.mpr h1), fun a o e _ => hk a o e, ⟨M.nb, fun i hi z => ?_, fun a z => ?_, M.inj, fun i c e => ?_⟩⟩
  · rcases h with h | rfl
    · exact .inl h
    · exact .inr hp
  · rcases z with z | z
    · exact M.nf i hi z
    · obtain ⟨u, e⟩ := M.ex hi
      have e2 : H p = some u := by rw [← z]; exact e
      rw [hp] at e2; cases e2
  · rcases z with z | rfl
    · obtain ⟨u, e⟩ := M.fx a z; exact ⟨u, hk _ _ e⟩
    · exact ⟨o, upd_same⟩
  · have hi : i < s.length := (List.getElem?_eq_some_iff.mp e).1
    obtain ⟨u, eo⟩ := M.ex hi
    exact (M.cl i c e).le l ((hk _ _ eo).trans eo.symm)
end
end CS
end CSRel_

section CSRead_
set_option maxRecDepth 100000
namespace CS
open PySem L2

structure StOk (B : Nm) (K : PySem.W.Frag) (m : Mp) (s : SH) (H : Hp) (σ : Sl) (τ : St) : Prop where
  mt : Match B K m s H
  len : τ.length = σ.length
  at_ : ∀ (i : Nat) v, σ[i]? = some (some v) → ∃ x, τ[i]? = some (some x) ∧ RV K m s.length H v x

/-- a result, and what is wanted of what it is in the machine -/
def Kon {α β : Type} (B : Nm) (K : PySem.W.Frag) (rel : Mp → Nat → Hp → α → β → Prop) (r : R α) (m : Mp) (s : SH) (H : Hp) (Q : β → Hp → Prop) : Prop :=
  ∃ v s', r = .ok v s' ∧ ∀ m' H' x, Go B K m s H m' s' H' → rel m' s'.length H' v x → Q x H'
def relB : Mp → Nat → Hp → Bool → Bool → Prop := fun _ _ _ a b => a = b

def TEi (B : Nm) (K : PySem.W.Frag) (r : Sl → SH → R PV) : TE := fun τ H Q => ∃ m s σ, StOk B K m s H σ τ ∧ Kon B K (RV K) (r σ s) m s H Q
def TAi (B : Nm) (K : PySem.W.Frag) (r : Sl → SH → R (List PV)) : TA := fun τ H Q => ∃ m s σ, StOk B K m s H σ τ ∧ Kon B K (RVs K) (r σ s) m s H Q
def TTi (B : Nm) (K : PySem.W.Frag) (r : Sl → SH → R Bool) : TT := fun τ H Q => ∃ m s σ, StOk B K m s H σ τ ∧ Kon B K relB (r σ s) m s H Q
def KonF (B : Nm) (K : PySem.W.Frag) (f : Fl) (m : Mp) (s : SH) (H : Hp) (D : Ends) : Prop := match f with
  | .next σ' s' => ∀ m' H' τ', Go B K m s H m' s' H' → StOk B K m' s' H' σ' τ' → D.nx τ' H'
  | .ret v s' => ∀ m' H' x, Go B K m s H m' s' H' → RV K m' s'.length H' v x → D.rt x H'
  | .brk σ' s' => ∀ m' H' τ', Go B K m s H m' s' H' → StOk B K m' s' H' σ' τ' → D.bk τ' H'
  | .cont σ' s' => ∀ m' H' τ', Go B K m s H m' s' H' → StOk B K m' s' H' σ' τ' → D.ct τ' H'
  | .bad _ => False
def TSi (B : Nm) (K : PySem.W.Frag) (r : Sl → SH → Fl) : TS := fun D τ H => ∃ m s σ, StOk B K m s H σ τ ∧ KonF B K (r σ s) m s H D

abbrev SE (B : Nm) (X : Cx) (e : Expr) (r : Sl → SH → R PV) : Prop := PE X e (TEi B X.K r)
abbrev SA (B : Nm) (X : Cx) (es : List Expr) (r : Sl → SH → R (List PV)) : Prop := PA X es (TAi B X.K r)
abbrev SB (B : Nm) (X : Cx) (e : Expr) (r : Sl → SH → R Bool) : Prop := PT X e (TTi B X.K r)
abbrev SS (B : Nm) (X : Cx) (st : Stmt) (r : Sl → SH → Fl) : Prop := PS X st (TSi B X.K r)
abbrev SSs (B : Nm) (X : Cx) (sts : List Stmt) (r : Sl → SH → Fl) : Prop := PSs X sts (TSi B X.K r)

theorem _root_.L2.PE.imp {X : Cx} {e : Expr} {t u : TE} (h : PE X e t) (i : ∀ σ H Q, u σ H Q → t σ H Q) : PE X e u := ⟨fun pins s σ H Q I q => h.run pins s σ H Q I (i σ H Q q)⟩
theorem _root_.L2.PT.imp {X : Cx} {e : Expr} {t u : TT} (h : PT X e t) (i : ∀ σ H Q, u σ H Q → t σ H Q) : PT X e u := ⟨fun pins s σ H Q I q => h.run pins s σ H Q I (i σ H Q q)⟩
theorem _root_.L2.PA.imp {X : Cx} {e : List Expr} {t u : TA} (h : PA X e t) (i : ∀ σ H Q, u σ H Q → t σ H Q) : PA X e u := ⟨fun pos pins s σ H Q I q => h.run pos pins s σ H Q I (i σ H Q q)⟩
theorem _root_.L2.PS.imp {X : Cx} {e : Stmt} {t u : TS} (h : PS X e t) (i : ∀ D σ H, u D σ H → t D σ H) : PS X e u := ⟨fun pins s σ H D I q => h.run pins s σ H D I (i D σ H q)⟩
theorem _root_.L2.PSs.imp {X : Cx} {e : List Stmt} {t u : TS} (h : PSs X e t) (i : ∀ D σ H, u D σ H → t D σ H) : PSs X e u := ⟨fun pins s σ H D I q => h.run pins s σ H D I (i D σ H q)⟩

section
variable {B : Nm} {K : PySem.W.Frag} {m m' : Mp} {s s' : SH} {H H' : Hp} {σ : Sl} {τ : St}
theorem StOk.go (h : StOk B K m s H σ τ) (g : Go B K m s H m' s' H') : StOk B K m' s' H' σ τ :=
  ⟨g.mt, h.len, fun i v e => let ⟨x, e1, r⟩ := h.at_ i v e; ⟨x, e1, RV.le (g.le h.mt) v x r⟩⟩

variable {α β γ δ : Type} {rel : Mp → Nat → Hp → α → β → Prop} {rel' : Mp → Nat → Hp → γ → δ → Prop}
theorem Kon.go {r : R α} {Q : β → Hp → Prop} (M : Match B K m s H) (h : Kon B K rel r m s H Q) (g : Go B K m s H m' s' H') : ∃ v s'', r = .ok v s'' ∧ (s'' = s' → Kon B K rel r m' s' H' Q) := by
  obtain ⟨v, s1, e, k⟩ := h
  exact ⟨v, s1, e, fun q => by subst q; exact ⟨v, s1, e, fun m2 H2 x g2 rv => k m2 H2 x (g.trans M g2) rv⟩⟩
theorem Kon.bind {r : R α} {f : α → SH → R γ} {Q : δ → Hp → Prop} (M : Match B K m s H) (h : Kon B K rel' (r.bind f) m s H Q) :
    ∃ v s1, r = .ok v s1 ∧ ∀ m1 H1, Go B K m s H m1 s1 H1 → Kon B K rel' (f v s1) m1 s1 H1 Q := by
  obtain ⟨w, s2, e, k⟩ := h
  cases r with
  | bad w => cases e
  | ok v s1 => exact ⟨v, s1, rfl, fun m1 H1 g => ⟨w, s2, e, fun m2 H2 x g2 rv => k m2 H2 x (g.trans M g2) rv⟩⟩
/-- an expression, then more -/
theorem TEi.bind {r : Sl → SH → R PV} {f : Sl → PV → SH → R γ} {Q : δ → Hp → Prop} {R' : VK} (st : StOk B K m s H σ τ) (h : Kon B K rel' ((r σ s).bind (f σ)) m s H Q)
    (k : ∀ v s1 m1 H1 x, Go B K m s H m1 s1 H1 → StOk B K m1 s1 H1 σ τ → RV K m1 s1.length H1 v x → Kon B K rel' (f σ v s1) m1 s1 H1 Q → R' x H1) : TEi B K r τ H R' := by
  obtain ⟨v, s1, e, kk⟩ := h.bind st.mt
  exact ⟨m, s, σ, st, v, s1, e, fun m1 H1 x g rv => k v s1 m1 H1 x g (st.go g) rv (kk m1 H1 g)⟩
theorem TAi.bind {r : Sl → SH → R (List PV)} {f : Sl → List PV → SH → R γ} {Q : δ → Hp → Prop} {R' : List V → Hp → Prop} (st : StOk B K m s H σ τ) (h : Kon B K rel' ((r σ s).bind (f σ)) m s H Q)
    (k : ∀ v s1 m1 H1 x, Go B K m s H m1 s1 H1 → StOk B K m1 s1 H1 σ τ → RVs K m1 s1.length H1 v x → Kon B K rel' (f σ v s1) m1 s1 H1 Q → R' x H1) : TAi B K r τ H R' := by
  obtain ⟨v, s1, e, kk⟩ := h.bind st.mt
  exact ⟨m, s, σ, st, v, s1, e, fun m1 H1 x g rv => k v s1 m1 H1 x g (st.go g) rv (kk m1 H1 g)⟩
theorem TTi.bind {r : Sl → SH → R Bool} {f : Sl → Bool → SH → R γ} {Q : δ → Hp → Prop} {R' : Bool → Hp → Prop} (st : StOk B K m s H σ τ) (h : Kon B K rel' ((r σ s).bind (f σ)) m s H Q)
    (k : ∀ b s1 m1 H1, Go B K m s H m1 s1 H1 → StOk B K m1 s1 H1 σ τ → Kon B K rel' (f σ b s1) m1 s1 H1 Q → R' b H1) : TTi B K r τ H R' := by
  obtain ⟨v, s1, e, kk⟩ := h.bind st.mt
  exact ⟨m, s, σ, st, v, s1, e, fun m1 H1 x g rv => by cases rv; exact k v s1 m1 H1 g (st.go g) (kk m1 H1 g)⟩

/-- done -/
theorem Kon.val {v : PV} {x : V} {Q : VK} (M : Match B K m s H) (h : Kon B K (RV K) (.ok v s) m s H Q) (r : RV K m s.length H v x) : Q x H := by
  obtain ⟨w, s1, e, k⟩ := h
  cases e
  exact k m H x (Go.refl M) r
theorem Kon.valB {b : Bool} {Q : Bool → Hp → Prop} (M : Match B K m s H) (h : Kon B K relB (.ok b s) m s H Q) : Q b H := by
  obtain ⟨w, s1, e, k⟩ := h
  cases e
  exact k m H b (Go.refl M) rfl
theorem Kon.valA {v : List PV} {x : List V} {Q : List V → Hp → Prop} (M : Match B K m s H) (h : Kon B K (RVs K) (.ok v s) m s H Q) (r : RVs K m s.length H v x) : Q x H := by
  obtain ⟨w, s1, e, k⟩ := h
  cases e
  exact k m H x (Go.refl M) r
theorem Kon.bad {w : Nat} {Q : β → Hp → Prop} (h : Kon B K rel (.bad w) m s H Q) : False := by
  obtain ⟨_, _, e, _⟩ := h
  cases e
theorem Kon.liftO {o : Option α} {w : Nat} {f : α → SH → R γ} {Q : δ → Hp → Prop} (h : Kon B K rel' ((CS.liftO o s w).bind f) m s H Q) : ∃ a, o = some a ∧ Kon B K rel' (f a s) m s H Q := by
  cases o with
  | none => exact (Kon.bad h).elim
  | some a => exact ⟨a, rfl, h⟩
theorem Kon.lift1 {o : Option PV} {w : Nat} {Q : VK} (h : Kon B K (RV K) (CS.liftO o s w) m s H Q) : ∃ a, o = some a ∧ Kon B K (RV K) (.ok a s) m s H Q := by
  cases o with
  | none => exact (Kon.bad h).elim
  | some a => exact ⟨a, rfl, h⟩
theorem Kon.liftB {o : Option Bool} {w : Nat} {Q : Bool → Hp → Prop} (h : Kon B K relB (CS.liftO o s w) m s H Q) : ∃ a, o = some a ∧ Kon B K relB (.ok a s) m s H Q := by
  cases o with
  | none => exact (Kon.bad h).elim
  | some a => exact ⟨a, rfl, h⟩
theorem Kon.effO {z : Bool} {o : Option Eff} {w : Nat} {Q : VK} (h : Kon B K (RV K) (CS.effO z o s w) m s H Q) : ∃ a, o = some a ∧ Kon B K (RV K) (apE z a s) m s H Q := by
  cases o with
  | none => exact (Kon.bad h).elim
  | some a => exact ⟨a, rfl, h⟩
/-- a new tuple in the machine -/
theorem Kon.tup {xs : List PV} {vs : List V} {Q : VK} (M : Match B K m s H) (h : Kon B K (RV K) (.ok (.tup xs) s) m s H Q) (r : RVs K m s.length H xs vs) {p : Addr} (hp : H p = none) : Q (.ref p) (upd H p (.tup vs)) := by
  obtain ⟨w, s1, e, k⟩ := h
  cases e
  have g := Go.upd (B := B) (o := .tup vs) M hp
  exact k m _ _ g ⟨p, vs, rfl, .inl upd_same, RVs.le (g.le M) _ _ r⟩
/-- a new list -/
theorem Kon.lst {z : Bool} {xs : List PV} {vs : List V} {Q : VK} (M : Match B K m s H) (h : Kon B K (RV K) (apE z (.new (.lst xs)) s) m s H Q) (r : RVs K m s.length H xs vs) {p : Addr} (hp : H p = none) : Q (.ref p) (upd H p (.lst vs)) := by
  obtain ⟨w, s1, e, k⟩ := h
  have hk : ∀ a o, H a = some o → upd H p (.lst vs) a = some o := fun a o e => by rw [upd_ne (ne_of_none e hp)]; exact e
  cases z with
  | true =>
    simp only [apE, if_true] at e
    cases e
    have g := Go.froze (B := B) (o := .lst vs) M hp
    exact k _ _ _ g ⟨p, vs, rfl, .inr rfl, upd_same, RVs.le (g.le M) _ _ r⟩
  | false =>
    simp only [apE, Bool.false_eq_true, if_false] at e
    cases e
    have g1 := Go.upd (B := B) (o := .lst vs) M hp
    have l1 := g1.le M
    have l : Le K m s.length H (extM m s.length p) (s ++ [Cell.lst xs]).length (upd H p (.lst vs)) := ⟨rfl, l1.fz, by simp, fun i hi => extM_old hi, l1.tup, l1.frz⟩
    have g : Go B K m s H (extM m s.length p) (s ++ [Cell.lst xs]) (upd H p (.lst vs)) := Go.cell M hp hk ⟨vs, upd_same, RVs.le l _ _ r⟩
    exact k _ _ _ g ⟨by simp, by rw [extM_new]⟩
/-- a list is written -/
theorem Kon.wrL {z : Bool} {n : Nat} {xs ys : List PV} {us vs : List V} {v : PV} {x : V} {Q : VK} (M : Match B K m s H) (hn : s[n]? = some (.lst xs)) (hH : H (m n) = some (.lst us)) (h : Kon B K (RV K) (apE z (.wr n (.lst ys) v) s) m s H Q)
    (r : RVs K m s.length H ys vs) (rv : RV K m s.length H v x) : Q x (upd H (m n) (.lst vs)) := by
  obtain ⟨w, s1, e, k⟩ := h
  cases e
  have hl : n < s.length := (List.getElem?_eq_some_iff.mp hn).1
  have g := Go.write (B := B) M (k := n) (o := .lst vs) (c := .lst ys) hl (fun vs e => by rw [hH] at e; cases e) (fun o u e => by rw [hH] at e; cases e) (fun l => ⟨vs, upd_same, RVs.le l _ _ r⟩)
  exact k m _ x g (RV.le (g.le M) _ _ rv)

/-! ### what a value is -/
theorem seqOf_ok {v : PV} {x : V} {xs : List PV} (M : Match B K m s H) (e : seqOf s v = some xs) (r : RV K m s.length H v x) : ∃ p vs, x = .ref p ∧ (SqL K H p vs ∨ SqT K H p vs) ∧ RVs K m s.length H xs vs := by
  cases v with
  | tup ys => cases e; obtain ⟨p, vs, e1, q, r⟩ := r; exact ⟨p, vs, e1, .inr q.sq, r⟩
  | scr ys => cases e; obtain ⟨p, vs, e1, q, r⟩ := r; exact ⟨p, vs, e1, .inl q.sq, r⟩
  | rol ys => cases e; obtain ⟨p, vs, e1, _, q, r⟩ := r; exact ⟨p, vs, e1, .inl (.of q), r⟩
  | ref n =>
    simp only [seqOf] at e
    cases hc : s[n]? with
    | none => rw [hc] at e; cases e
    | some c =>
      rw [hc] at e
      cases c with
      | ins c fs => cases e
      | lst ys =>
        cases e
        obtain ⟨vs, e2, rr⟩ := M.cl n _ hc
        exact ⟨m n, vs, r.2, .inl (.inl (.inl e2)), rr⟩
  | _ => cases e
theorem lstOf_ok {v : PV} {x : V} {xs : List PV} (M : Match B K m s H) (e : lstOf s v = some xs) (r : RV K m s.length H v x) : ∃ p vs, x = .ref p ∧ SqL K H p vs ∧ RVs K m s.length H xs vs := by
  cases v with
  | scr ys => cases e; obtain ⟨p, vs, e1, q, r⟩ := r; exact ⟨p, vs, e1, q.sq, r⟩
  | rol ys => cases e; obtain ⟨p, vs, e1, _, q, r⟩ := r; exact ⟨p, vs, e1, .of q, r⟩
  | ref n =>
    simp only [lstOf] at e
    cases hc : s[n]? with
    | none => rw [hc] at e; cases e
    | some c =>
      rw [hc] at e
      cases c with
      | ins c fs => cases e
      | lst ys =>
        cases e
        obtain ⟨vs, e2, rr⟩ := M.cl n _ hc
        exact ⟨m n, vs, r.2, .inl (.inl e2), rr⟩
  | _ => cases e
theorem isEmptyR {xs : List PV} {vs : List V} {n : Nat} (r : RVs K m n H xs vs) : (!vs.isEmpty) = !xs.isEmpty := by
  cases xs with
  | nil => rw [show vs = [] from r]; rfl
  | cons x xs => obtain ⟨v, q, rfl, _⟩ := r; rfl
theorem tru_of {v : PV} {x : V} {b : Bool} (M : Match B K m s H) (e : tru s v = some b) (r : RV K m s.length H v x) : TruV K x H b := by
  cases v with
  | non => cases e; cases r; rfl
  | bl c => cases e; cases r; rfl
  | int i => cases e; cases r; rfl
  | str z =>
    cases r
    simp only [tru] at e
    split at e
    · rename_i h
      cases e
      refine ⟨h, ?_⟩
      by_cases q : z.length = 0
      · simp [q]
      · have : ((z.length : Int) != 0) = true := by simp; omega
        rw [this]; simp [q]
    · cases e
  | tup ys => cases e; obtain ⟨p, vs, rfl, q, r⟩ := r; exact .inr (.inl ⟨vs, q.sq, (isEmptyR r).symm⟩)
  | scr ys => cases e; obtain ⟨p, vs, rfl, q, r⟩ := r; exact .inl ⟨vs, q.sq, (isEmptyR r).symm⟩
  | rol ys => cases e; obtain ⟨p, vs, rfl, _, q, r⟩ := r; exact .inl ⟨vs, .of q, (isEmptyR r).symm⟩
  | obj c ys => cases e
  | ref n =>
    simp only [tru] at e
    cases hc : s[n]? with
    | none => rw [hc] at e; cases e
    | some c =>
      rw [hc] at e
      cases c with
      | ins c fs => cases e
      | lst ys =>
        cases e
        obtain ⟨vs, e2, rr⟩ := M.cl n _ hc
        obtain ⟨_, rfl⟩ := r
        exact .inl ⟨vs, .inl (.inl e2), (isEmptyR rr).symm⟩
end

/-! ## expressions -/
section
variable {B : Nm} {X : Cx} {e a b c : Expr} {es : List Expr} {pos : Pos} {ra rb rc : Sl → SH → R PV} {tA tB : Sl → SH → R Bool}
theorem se_c {v : PV} {x : V} (h : PE X e (tC x)) (r : ∀ m n H, RV X.K m n H v x) : SE B X e (fun _ s => .ok v s) :=
  h.imp fun τ H Q ⟨m, s, σ, st, k⟩ => Kon.val st.mt k (r _ _ _)
theorem se_int {i : Int} {j : Nat} : SE B X (.Constant (.int i) j pos) (fun _ s => .ok (.int i) s) := se_c pe_int fun _ _ _ => rfl
theorem se_bl {i : Bool} {j : Nat} : SE B X (.Constant (.bool i) j pos) (fun _ s => .ok (.bl i) s) := se_c pe_bl fun _ _ _ => rfl
theorem se_non {j : Nat} : SE B X (.Constant .none j pos) (fun _ s => .ok .non s) := se_c pe_non fun _ _ _ => rfl
theorem se_str {i : Str} {j : Nat} : SE B X (.Constant (.str i) j pos) (fun _ s => .ok (.str i) s) := se_c pe_str fun _ _ _ => rfl
theorem se_v {i : Nat} {x : Str} (hN : X.N[i]? = some x) (hv : Vis X.env.scope x) (hd : (x == ("__debug__" : Str)) = false) (hcd : (x == ("__classdict__" : Str)) = false) :
    SE B X (.Name x pos) (fun σ s => match σ[i]? with | some (some v) => .ok v s | _ => .bad 30) :=
  (pe_var hN hv hd hcd).imp fun τ H Q ⟨m, s, σ, st, k⟩ => by
    cases e : σ[i]? with
    | none => simp only [e] at k; exact (Kon.bad k).elim
    | some o =>
      simp only [e] at k
      cases o with
      | none => exact (Kon.bad k).elim
      | some v =>
        obtain ⟨x, e1, r⟩ := st.at_ i v e
        exact ⟨x, e1, Kon.val st.mt k r⟩
/-- two operands -/
theorem se_op {f : Value → Value → Sem Value} {r : R2} {op : Operator} (g : PV → PV → SH → R PV) (ha : SE B X a ra) (hb : SE B X b rb) (ho : OpR X (binaryOp op) r)
    (h : ∀ m s H v w x y Q, Match B X.K m s H → RV X.K m s.length H v x → RV X.K m s.length H w y → Kon B X.K (RV X.K) (g v w s) m s H Q → r x y H Q) :
    SE B X (.BinOp a op b pos) (fun σ s => (ra σ s).bind fun x s => (rb σ s).bind fun y s => g x y s) :=
  (pe_op ho ha hb).imp fun τ H Q ⟨m, s, σ, st, k⟩ =>
    TEi.bind (f := fun σ x s => (rb σ s).bind fun y s => g x y s) st k fun v s1 m1 H1 x g1 st1 rv k1 =>
      TEi.bind (f := fun σ y s => g v y s) st1 k1 fun w s2 m2 H2 y g2 st2 rw k2 =>
        h m2 s2 H2 v w x y Q st2.mt (RV.le (g2.le st1.mt) _ _ rv) rw k2
/-- a comparison, as a value and as a test -/
def PEC (B : Nm) (X : Cx) (e : Expr) (r : Sl → SH → R PV) : Prop := SE B X e r ∧ PT X e (tTest (TEi B X.K r))
theorem pec {t : TE} {r : Sl → SH → R PV} (h1 : PE X e t) (h2 : PT X e (tTest t)) (imp : ∀ τ H Q, TEi B X.K r τ H Q → t τ H Q) : PEC B X e r := ⟨h1.imp imp, h2.imp fun τ H Q q => imp _ _ _ q⟩
theorem PEC.sb {r : Sl → SH → R PV} (h : PEC B X e r) : SB B X e (fun σ s => (r σ s).bind fun x s => (match x with | .bl b => R.ok b s | _ => .bad 44)) :=
  h.2.imp fun τ H Q ⟨m, s, σ, st, k⟩ =>
    TEi.bind (rel' := relB) (f := fun σ x s => (match x with | .bl b => R.ok b s | _ => .bad 44)) st k fun v s1 m1 H1 x g1 st1 rv k1 => by
      cases v with
      | bl b => cases rv; exact ⟨b, rfl, Kon.valB st1.mt k1⟩
      | _ => exact (Kon.bad k1).elim
theorem se_cmp {r : R2} {op : CmpOp} (g : PV → PV → SH → R PV) (ha : SE B X a ra) (hb : SE B X b rb) (ho : OpR X (compareOp op) r) (hm : behindInMarks op b = false)
    (h : ∀ m s H v w x y Q, Match B X.K m s H → RV X.K m s.length H v x → RV X.K m s.length H w y → Kon B X.K (RV X.K) (g v w s) m s H Q → r x y H Q) :
    PEC B X (.Compare a [op] [b] pos) (fun σ s => (ra σ s).bind fun x s => (rb σ s).bind fun y s => g x y s) :=
  pec (pe_cmpR ho ha hb hm) (pt_cmpR ho ha hb hm) fun τ H Q ⟨m, s, σ, st, k⟩ =>
    TEi.bind (f := fun σ x s => (rb σ s).bind fun y s => g x y s) st k fun v s1 m1 H1 x g1 st1 rv k1 =>
      TEi.bind (f := fun σ y s => g v y s) st1 k1 fun w s2 m2 H2 y g2 st2 rw k2 =>
        h m2 s2 H2 v w x y Q st2.mt (RV.le (g2.le st1.mt) _ _ rv) rw k2
theorem se_un {r : V → Hp → VK → Prop} {op : PySem.UnaryOp} (g : PV → SH → R PV) (ha : SE B X a ra) (ho : UnR X (unaryOp op) r)
    (h : ∀ m s H v x Q, Match B X.K m s H → RV X.K m s.length H v x → Kon B X.K (RV X.K) (g v s) m s H Q → r x H Q) :
    SE B X (.UnaryOp op a pos) (fun σ s => (ra σ s).bind fun x s => g x s) :=
  (pe_un ho ha).imp fun τ H Q ⟨m, s, σ, st, k⟩ =>
    TEi.bind (f := fun σ x s => g x s) st k fun v s1 m1 H1 x g1 st1 rv k1 => h m1 s1 H1 v x Q st1.mt rv k1
/-- arguments -/
theorem sa_nil : SA B X [] (fun _ s => .ok [] s) := pa_nil.imp fun τ H Q ⟨m, s, σ, st, k⟩ => Kon.valA st.mt k rfl
theorem sa_cons {rs : Sl → SH → R (List PV)} (ha : SE B X e ra) (hr : SA B X es rs) (hs : starEach (e :: es) X.env = (false, eval e X.env) :: starEach es X.env) :
    SA B X (e :: es) (fun σ s => (ra σ s).bind fun x s => (rs σ s).bind fun xs s => .ok (x :: xs) s) :=
  (pa_cons ha hr hs).imp fun τ H Q ⟨m, s, σ, st, k⟩ =>
    TEi.bind (f := fun σ x s => (rs σ s).bind fun xs s => .ok (x :: xs) s) st k fun v s1 m1 H1 x g1 st1 rv k1 =>
      TAi.bind (f := fun σ xs s => .ok (v :: xs) s) st1 k1 fun vs s2 m2 H2 xs g2 st2 rvs k2 =>
        Kon.valA st2.mt k2 ⟨x, xs, rfl, RV.le (g2.le st1.mt) _ _ rv, rvs⟩
/-- displays -/
theorem se_tup {z : Bool} {rs : Sl → SH → R (List PV)} {x1 : Nat} (h : SA B X es rs) : SE B X (.Tuple es x1 pos) (fun σ s => (rs σ s).bind fun vs s => effO z (prim s .tup vs) s 31) :=
  (pe_tup h).imp fun τ H Q ⟨m, s, σ, st, k⟩ =>
    TAi.bind (f := fun σ vs s => effO z (prim s .tup vs) s 31) st k fun vs s1 m1 H1 xs g1 st1 rvs k1 => by
      obtain ⟨a, e, k2⟩ := Kon.effO k1
      simp only [prim, pTup, pLst] at e
      split at e
      · rename_i hl
        cases e
        exact ⟨by rw [rvs.length]; exact hl, fun p hp => Kon.tup st1.mt k2 rvs hp⟩
      · cases e
theorem se_lst {z : Bool} {rs : Sl → SH → R (List PV)} (h : SA B X es rs) : SE B X (.List es pos) (fun σ s => (rs σ s).bind fun vs s => effO z (prim s .lst vs) s 31) :=
  (pe_lst h).imp fun τ H Q ⟨m, s, σ, st, k⟩ =>
    TAi.bind (f := fun σ vs s => effO z (prim s .lst vs) s 31) st k fun vs s1 m1 H1 xs g1 st1 rvs k1 => by
      obtain ⟨a, e, k2⟩ := Kon.effO k1
      simp only [prim, pTup, pLst] at e
      split at e
      · rename_i hl
        cases e
        exact ⟨by rw [rvs.length]; exact hl, fun p hp => Kon.lst st1.mt k2 rvs hp⟩
      · cases e
/-- tests -/
theorem sb_e (h : SE B X e ra) (he : ∀ whole, isTrue e X.env whole = (do let v ← whole; standAt e.pos; holding [v] (truthy v))) :
    SB B X e (fun σ s => (ra σ s).bind fun x s => liftO (tru s x) s 44) :=
  (pt_truth h he).imp fun τ H Q ⟨m, s, σ, st, k⟩ =>
    TEi.bind (rel' := relB) (f := fun σ x s => liftO (tru s x) s 44) st k fun v s1 m1 H1 x g1 st1 rv k1 => by
      obtain ⟨b, e, k2⟩ := Kon.liftB k1
      exact ⟨b, tru_of st1.mt e rv, Kon.valB st1.mt k2⟩
theorem sb_not (h : SB B X a tA) : SB B X (.UnaryOp .Not a pos) (fun σ s => (tA σ s).bind fun k s => .ok (!k) s) :=
  (pt_not h).imp fun τ H Q ⟨m, s, σ, st, k⟩ =>
    TTi.bind (rel' := relB) (f := fun σ k s => .ok (!k) s) st k fun b s1 m1 H1 g1 st1 k1 => Kon.valB st1.mt k1
end
end CS
end CSRead_

section CSBack_
set_option maxRecDepth 100000
set_option maxHeartbeats 1000000
namespace CS
open PySem L2
/-! ### a call's heap beside the caller's -/
theorem mapM_cons_some {α β : Type} {f : α → Option β} {x : α} {xs : List α} {ys : List β} (h : (x :: xs).mapM f = some ys) : ∃ y zs, f x = some y ∧ xs.mapM f = some zs ∧ ys = y :: zs := by
  rw [List.mapM_cons] at h
  cases e : f x with
  | none => rw [e] at h; cases h
  | some y =>
    rw [e] at h
    cases e2 : xs.mapM f with
    | none => rw [e2] at h; cases h
    | some zs => rw [e2] at h; cases h; exact ⟨y, zs, rfl, rfl, rfl⟩
theorem nrV_eq (s : SH) (d : Nat) (v : PV) : nrV s (d + 1) v = if v.pureB = true then v.nrB else match v with
    | .ref n => (match s[n]? with
      | some (.lst xs) => xs.all (nrV s d)
      | _ => false)
    | .tup xs => xs.all (nrV s d)
    | .obj _ xs => xs.all (nrV s d)
    | _ => false := by cases v <;> rfl
theorem fzV_eq (s : SH) (ok : Nat → Bool) (d : Nat) (v : PV) : fzV s ok (d + 1) v = if v.pureB = true then some v else match v with
    | .ref n => if ok n then (match s[n]? with
      | some (.lst xs) => (xs.mapM (fzV s ok d)).map .rol
      | _ => none) else none
    | .tup xs => (xs.mapM (fzV s ok d)).map .tup
    | .rol xs => (xs.mapM (fzV s ok d)).map .rol
    | .obj c xs => (xs.mapM (fzV s ok d)).map (.obj c)
    | _ => none := by cases v <;> rfl
theorem nrV_mono {s : SH} : ∀ {d : Nat} {v : PV}, nrV s d v = true → nrV s (d + 1) v = true
  | 0, v, h => by
    simp only [nrV, Bool.and_eq_true] at h
    rw [nrV_eq, if_pos h.1]; exact h.2
  | d + 1, v, h => by
    rw [nrV_eq] at h ⊢
    by_cases hp : v.pureB = true
    · rw [if_pos hp] at h ⊢; exact h
    · rw [if_neg hp] at h ⊢
      have key : ∀ xs : List PV, xs.all (nrV s d) = true → xs.all (nrV s (d + 1)) = true := fun xs q => by
        rw [List.all_eq_true] at q ⊢
        exact fun y hy => nrV_mono (q y hy)
      cases v with
      | ref n =>
        simp only at h ⊢
        split at h
        · exact key _ h
        · cases h
      | tup xs => exact key _ h
      | obj c xs => exact key _ h
      | _ => exact h
section
variable {B : Nm} {K : PySem.W.Frag} {m m2 m3 m4 : Mp} {s h0 s3 : SH} {H H1 H' : Hp} {T : Addr → Prop} {lo n n' n4 : Nat} {at4 : Nat → Addr}
/-- m2, h0, H1: what the called one begins with; T: the caller's lists that are read meanwhile -/
structure Side (B : Nm) (K : PySem.W.Frag) (m : Mp) (s : SH) (H : Hp) (T : Addr → Prop) (m2 : Mp) (h0 : SH) (H1 : Hp) (lo : Nat) : Prop where
  M : Match B K m s H
  kp : ∀ a o, H a = some o → H1 a = some o
  T1 : ∀ a, T a → ∃ i vs, i < s.length ∧ a = m i ∧ H a = some (.lst vs)
  M2 : Match B K m2 h0 H1
  fz1 : ∀ a, m2.fz a → m.fz a ∨ T a
  fz2 : ∀ a, m.fz a → m2.fz a
  fz3 : ∀ a, T a → m2.fz a
  hlo : lo ≤ h0.length
  hc : ∀ k, k < lo → ∃ i, i < s.length ∧ m2 k = m i
  hd : ∀ k, lo ≤ k → k < h0.length → H (m2 k) = none
/-- the caller's map behind the call -/
def backM (at4 : Nat → Addr) (n4 lo : Nat) (m3 : Mp) (n3 : Nat) (nb : Nm) : Mp := ⟨at4, fun a => (m3.fz a ∨ ∃ i, lo ≤ i ∧ i < n3 ∧ a = m3 i) ∧ ∀ i, i < n4 → a ≠ at4 i, nb⟩
/-- the cells behind the call -/
structure AtOk (m : Mp) (s : SH) (m3 : Mp) (s3 : SH) (lo n4 : Nat) (at4 : Nat → Addr) : Prop where
  len : s.length ≤ n4
  old : ∀ i, i < s.length → at4 i = m i
  new : ∀ i, s.length ≤ i → i < n4 → ∃ j, lo ≤ j ∧ j < s3.length ∧ at4 i = m3 j
section
variable (D : Side B K m s H T m2 h0 H1 lo) (g : Go B K m2 h0 H1 m3 s3 H') (A : AtOk m s m3 s3 lo n4 at4)
include D g
theorem Side.none_ {a : Addr} (h : H1 a = none) : H a = none := by
  cases q : H a with
  | none => rfl
  | some o => rw [D.kp a o q] at h; cases h
theorem Side.f0 {i : Nat} (h1 : lo ≤ i) (h2 : i < s3.length) : H (m3 i) = none := by
  by_cases h : i < h0.length
  · rw [g.ag i h]; exact D.hd i h1 h
  · exact D.none_ g (g.fr i (Nat.not_lt.mp h) h2)
theorem Side.f1 {i j : Nat} (h1 : lo ≤ i) (h2 : i < s3.length) (h3 : j < s.length) : m3 i ≠ m j := fun e => by
  obtain ⟨o, eo⟩ := D.M.ex h3
  rw [← e, D.f0 g h1 h2] at eo; cases eo
theorem Side.f5 {a : Addr} {o : HO} (e : H a = some o) (h : ∀ i, i < s.length → a ≠ m i) : H' a = some o := by
  refine g.kp a o (D.kp a o e) fun k hk q => ?_
  by_cases hl : k < lo
  · obtain ⟨i, hi, ei⟩ := D.hc k hl
    exact h i hi (q.trans ei)
  · rw [q, D.hd k (Nat.not_lt.mp hl) hk] at e; cases e
theorem Side.f7 {i : Nat} (hi : i < s.length) (h : ∀ k, k < lo → m i ≠ m2 k) : H' (m i) = H (m i) := by
  obtain ⟨o, eo⟩ := D.M.ex hi
  rw [eo]
  refine g.kp _ o (D.kp _ o eo) fun k hk q => ?_
  by_cases hl : k < lo
  · exact h k hl q
  · rw [q, D.hd k (Nat.not_lt.mp hl) hk] at eo; cases eo
include A
theorem Side.f3 {a : Addr} (h : m.fz a) : ∀ i, i < n4 → a ≠ at4 i := fun i hi e => by
  by_cases h1 : i < s.length
  · rw [A.old i h1] at e; exact D.M.ne_fz h i h1 e
  · obtain ⟨j, h2, h3, h4⟩ := A.new i (Nat.not_lt.mp h1) hi
    obtain ⟨o, eo⟩ := D.M.fx a h
    rw [e, h4, D.f0 g h2 h3] at eo; cases eo
theorem Side.f2 {a : Addr} (h : m.fz a) : (backM at4 n4 lo m3 s3.length m.nb).fz a := ⟨.inl (g.fzm a (D.fz2 a h)), D.f3 g A h⟩
theorem Side.f4 {a : Addr} (h : (backM at4 n4 lo m3 s3.length m.nb).fz a) : m.fz a ∨ H a = none := by
  obtain ⟨h1, h2⟩ := h
  rcases h1 with h1 | ⟨i, h3, h4, rfl⟩
  · rcases g.fzn a h1 with h3 | h3
    · rcases D.fz1 a h3 with h4 | h4
      · exact .inl h4
      · obtain ⟨i, vs, hi, e, _⟩ := D.T1 a h4
        have hi4 : i < n4 := by have := A.len; omega
        exact absurd (e.trans (A.old i hi).symm) (h2 i hi4)
    · exact .inr (D.none_ g h3)
  · exact .inr (D.f0 g h3 h4)
theorem Side.le : Le K m s.length H (backM at4 n4 lo m3 s3.length m.nb) n4 H' :=
  ⟨rfl, fun p o z e => ⟨D.f2 g A z, D.f5 g e (D.M.ne_fz z)⟩, A.len, fun i hi => A.old i hi, fun p vs e => D.f5 g e (D.M.ne_tup e), fun p o u e => D.f5 g e (D.M.ne_frz e)⟩
theorem Side.nf {i : Nat} (hi : i < n4) : ¬ (backM at4 n4 lo m3 s3.length m.nb).fz (at4 i) := fun h => h.2 i hi rfl
theorem Side.fx {a : Addr} (h : (backM at4 n4 lo m3 s3.length m.nb).fz a) : ∃ o, H' a = some o := by
  rcases h.1 with h | ⟨i, _, h2, rfl⟩
  · exact g.mt.fx a h
  · exact g.mt.ex h2
/-- what stays in the called one's heap stays in the caller's -/
theorem Side.up {p : Addr} (z : m3.fz p) (h : ¬ T p) : (backM at4 n4 lo m3 s3.length m.nb).fz p := by
  refine ⟨.inl z, fun i hi e => ?_⟩
  rcases g.fzn p z with h1 | h1
  · rcases D.fz1 p h1 with h2 | h2
    · exact D.f3 g A h2 i hi e
    · exact h h2
  · have h2 := D.none_ g h1
    by_cases h3 : i < s.length
    · obtain ⟨o, eo⟩ := D.M.ex h3
      rw [← A.old i h3, ← e, h2] at eo; cases eo
    · obtain ⟨j, _, h5, h6⟩ := A.new i (Nat.not_lt.mp h3) hi
      exact g.mt.nf j h5 (by rw [← h6, ← e]; exact z)
theorem Side.notT {p : Addr} {C dx : Addr} {gs : List (Str × V)} (e : H' p = some (.ins C dx gs)) : ¬ T p := fun h => by
  obtain ⟨i, vs, hi, rfl, e2⟩ := D.T1 _ h
  have := g.kp _ _ (D.kp _ _ e2) (D.M2.ne_fz (D.fz3 _ h))
  rw [e] at this; cases this
mutual
theorem Side.pure : ∀ (v : PV) (x : V), v.pureB = true → ((∀ a, ¬ T a) ∨ v.nrB = true) → RV K m3 s3.length H' v x → RV K (backM at4 n4 lo m3 s3.length m.nb) n' H' v x
  | .non, _, _, _, h => h
  | .bl _, _, _, _, h => h
  | .int _, _, _, _, h => h
  | .str _, _, _, _, h => h
  | .ref i, x, p, _, h => by simp [PV.pureB] at p
  | .tup xs, x, p, t, h => by
    obtain ⟨q, vs, e1, h1, h2⟩ := h
    exact ⟨q, vs, e1, h1, Side.pureL xs vs p t h2⟩
  | .scr xs, x, p, t, h => by
    obtain ⟨q, vs, e1, h1, h2⟩ := h
    rcases t with t | t
    · exact ⟨q, vs, e1, h1, Side.pureL xs vs p (.inl t) h2⟩
    · simp [PV.nrB] at t
  | .rol xs, x, p, t, h => by
    obtain ⟨q, vs, e1, z, h1, h2⟩ := h
    rcases t with t | t
    · exact ⟨q, vs, e1, Side.up D g A z (t q), h1, Side.pureL xs vs p (.inl t) h2⟩
    · simp [PV.nrB] at t
  | .obj c xs, x, p, t, h => by
    obtain ⟨q, dx, gs, e1, z, h1, h2, h3, h4, h5⟩ := h
    have nb : m3.nb = m.nb := g.mt.nb.trans D.M.nb.symm
    rw [nb] at h1 h2 h3 h4
    exact ⟨q, dx, gs, e1, Side.up D g A z (Side.notT D g A h1), h1, h2, h3, h4, Side.pureL xs _ p t h5⟩
theorem Side.pureL : ∀ (v : List PV) (x : List V), PV.pureL v = true → ((∀ a, ¬ T a) ∨ PV.nrL v = true) → RVs K m3 s3.length H' v x → RVs K (backM at4 n4 lo m3 s3.length m.nb) n' H' v x
  | [], _, _, _, h => h
  | v :: vs, x, p, t, h => by
    obtain ⟨y, r, e1, h1, h2⟩ := h
    simp only [PV.pureL, Bool.and_eq_true] at p
    have t1 : (∀ a, ¬ T a) ∨ v.nrB = true := t.imp_right fun q => by simp only [PV.nrL, Bool.and_eq_true] at q; exact q.1
    have t2 : (∀ a, ¬ T a) ∨ PV.nrL vs = true := t.imp_right fun q => by simp only [PV.nrL, Bool.and_eq_true] at q; exact q.2
    exact ⟨y, r, e1, Side.pure v y p.1 t1 h1, Side.pureL vs r p.2 t2 h2⟩
end
theorem Side.mapL {f : PV → Option PV} {nr : PV → Bool} (ih : ∀ v w x, f v = some w → ((∀ a, ¬ T a) ∨ nr v = true) → RV K m3 s3.length H' v x → RV K (backM at4 n4 lo m3 s3.length m.nb) n' H' w x) :
    ∀ (xs ys : List PV) (vs : List V), xs.mapM f = some ys → ((∀ a, ¬ T a) ∨ xs.all nr = true) → RVs K m3 s3.length H' xs vs → RVs K (backM at4 n4 lo m3 s3.length m.nb) n' H' ys vs
  | [], ys, vs, e, _, r => by cases e; exact r
  | x :: xs, ys, vs, e, t, r => by
    obtain ⟨y, zs, e1, e2, rfl⟩ := mapM_cons_some e
    obtain ⟨v, r', rfl, r1, r2⟩ := r
    have t1 : (∀ a, ¬ T a) ∨ nr x = true := t.imp_right fun q => by simp only [List.all_cons, Bool.and_eq_true] at q; exact q.1
    have t2 : (∀ a, ¬ T a) ∨ xs.all nr = true := t.imp_right fun q => by simp only [List.all_cons, Bool.and_eq_true] at q; exact q.2
    exact ⟨v, r', rfl, ih x y v e1 t1 r1, Side.mapL ih xs zs r' e2 t2 r2⟩
/-- a copy of what the called one tells -/
theorem Side.back {ok : Nat → Bool} (hok : ∀ i, ok i = true → i < s3.length → lo ≤ i ∧ ∀ k, s.length ≤ k → k < n4 → m3 i ≠ at4 k) : ∀ (d : Nat) (v w : PV) (x : V), fzV s3 ok d v = some w → ((∀ a, ¬ T a) ∨ nrV s3 d v = true) → RV K m3 s3.length H' v x → RV K (backM at4 n4 lo m3 s3.length m.nb) n' H' w x
  | 0, v, w, x, e, t, r => by
    simp only [fzV] at e
    split at e
    · rename_i hp
      cases e
      refine Side.pure D g A v x hp (t.imp_right fun q => ?_) r
      simp only [nrV, Bool.and_eq_true] at q; exact q.2
    · cases e
  | d + 1, v, w, x, e, t, r => by
    rw [fzV_eq] at e
    by_cases hp : v.pureB = true
    · rw [if_pos hp] at e
      cases e
      refine Side.pure D g A v x hp (t.imp_right fun q => ?_) r
      rw [nrV_eq, if_pos hp] at q; exact q
    · rw [if_neg hp] at e
      rw [nrV_eq, if_neg hp] at t
      have ih := fun v w x e t r => Side.back hok d v w x e t r
      cases v with
      | ref i =>
        simp only at e t
        split at e
        · rename_i hi
          split at e
          · rename_i xs hc
            rw [hc] at t
            obtain ⟨ys, e1, rfl⟩ := Option.map_eq_some_iff.mp e
            obtain ⟨hl, rfl⟩ := r
            obtain ⟨vs, eH, rr⟩ := g.mt.cl i _ hc
            obtain ⟨h1, h2⟩ := hok i hi hl
            refine ⟨m3 i, vs, rfl, ⟨.inr ⟨i, h1, hl, rfl⟩, fun k hk q => ?_⟩, eH, Side.mapL D g A ih xs ys vs e1 t rr⟩
            by_cases h3 : k < s.length
            · rw [A.old k h3] at q; exact D.f1 g h1 hl h3 q
            · exact h2 k (Nat.not_lt.mp h3) hk q
          · cases e
        · cases e
      | tup xs =>
        obtain ⟨ys, e1, rfl⟩ := Option.map_eq_some_iff.mp e
        obtain ⟨q, vs, e2, h1, h2⟩ := r
        exact ⟨q, vs, e2, h1, Side.mapL D g A ih xs ys vs e1 t h2⟩
      | rol xs =>
        obtain ⟨ys, e1, rfl⟩ := Option.map_eq_some_iff.mp e
        obtain ⟨q, vs, e2, z, h1, h2⟩ := r
        rcases t with t | t
        · exact ⟨q, vs, e2, Side.up D g A z (t q), h1, Side.mapL D g A ih xs ys vs e1 (.inl t) h2⟩
        · cases t
      | obj c xs =>
        obtain ⟨ys, e1, rfl⟩ := Option.map_eq_some_iff.mp e
        obtain ⟨q, dx, gs, e2, z, h1, h2, h3, h4, h5⟩ := r
        have nb : m3.nb = m.nb := g.mt.nb.trans D.M.nb.symm
        rw [nb] at h1 h2 h3 h4
        exact ⟨q, dx, gs, e2, Side.up D g A z (Side.notT D g A h1), h1, h2, h3, h4, Side.mapL D g A ih xs ys _ e1 t h5⟩
      | _ => cases e
end
/-! ### what is handed over -/
section
variable (fz2 : ∀ a, m.fz a → m2.fz a) (kp : ∀ a o, H a = some o → H1 a = some o) (nb : m.nb = m2.nb)
include fz2 kp nb
mutual
theorem RV.lift : ∀ (v : PV) (x : V), v.pureB = true → RV K m n H v x → RV K m2 n' H1 v x
  | .non, _, _, h => h
  | .bl _, _, _, h => h
  | .int _, _, _, h => h
  | .str _, _, _, h => h
  | .ref i, x, p, h => by simp [PV.pureB] at p
  | .tup xs, x, p, h => by
    obtain ⟨q, vs, e1, h1, h2⟩ := h
    exact ⟨q, vs, e1, h1.imp_left fun z => kp _ _ z, RVs.lift xs vs p h2⟩
  | .scr xs, x, p, h => by
    obtain ⟨q, vs, e1, h1, h2⟩ := h
    exact ⟨q, vs, e1, h1.imp_left fun ⟨o, z⟩ => ⟨o, kp _ _ z⟩, RVs.lift xs vs p h2⟩
  | .rol xs, x, p, h => by
    obtain ⟨q, vs, e1, z, h1, h2⟩ := h
    exact ⟨q, vs, e1, fz2 _ z, kp _ _ h1, RVs.lift xs vs p h2⟩
  | .obj c xs, x, p, h => by
    obtain ⟨q, dx, gs, e1, z, h1, h2, h3, h4, h5⟩ := h
    rw [nb] at h1 h2 h3 h4
    exact ⟨q, dx, gs, e1, fz2 _ z, kp _ _ h1, h2, h3, h4, RVs.lift xs _ p h5⟩
theorem RVs.lift : ∀ (v : List PV) (x : List V), PV.pureL v = true → RVs K m n H v x → RVs K m2 n' H1 v x
  | [], _, _, h => h
  | v :: vs, x, p, h => by
    obtain ⟨y, r, e1, h1, h2⟩ := h
    simp only [PV.pureL, Bool.and_eq_true] at p
    exact ⟨y, r, e1, RV.lift v y p.1 h1, RVs.lift vs r p.2 h2⟩
end
end
section
variable (D : Side B K m s H T m2 h0 H1 lo)
include D
theorem Side.inP (v : PV) (x : V) (p : v.pureB = true) (r : RV K m n H v x) : RV K m2 n' H1 v x := RV.lift D.fz2 D.kp (D.M.nb.trans D.M2.nb.symm) v x p r
theorem Side.inPL (v : List PV) (x : List V) (p : PV.pureL v = true) (r : RVs K m n H v x) : RVs K m2 n' H1 v x := RVs.lift D.fz2 D.kp (D.M.nb.trans D.M2.nb.symm) v x p r
theorem Side.inL {f : PV → Option PV} (ih : ∀ v w x, f v = some w → RV K m s.length H v x → RV K m2 n' H1 w x) :
    ∀ (xs ys : List PV) (vs : List V), xs.mapM f = some ys → RVs K m s.length H xs vs → RVs K m2 n' H1 ys vs
  | [], ys, vs, e, r => by cases e; exact r
  | x :: xs, ys, vs, e, r => by
    obtain ⟨y, zs, e1, e2, rfl⟩ := mapM_cons_some e
    obtain ⟨v, r', rfl, r1, r2⟩ := r
    exact ⟨v, r', rfl, ih x y v e1 r1, Side.inL ih xs zs r' e2 r2⟩
theorem Side.inV {ok : Nat → Bool} (hok : ∀ i vs, ok i = true → i < s.length → H (m i) = some (.lst vs) → T (m i)) : ∀ (d : Nat) (v w : PV) (x : V), fzV s ok d v = some w → RV K m s.length H v x → RV K m2 n' H1 w x
  | 0, v, w, x, e, r => by
    simp only [fzV] at e
    split at e
    · rename_i hp
      cases e
      exact Side.inP D v x hp r
    · cases e
  | d + 1, v, w, x, e, r => by
    rw [fzV_eq] at e
    by_cases hp : v.pureB = true
    · rw [if_pos hp] at e
      cases e
      exact Side.inP D v x hp r
    · rw [if_neg hp] at e
      have ih := fun v w x e r => Side.inV hok d v w x e r
      cases v with
      | ref i =>
        simp only at e
        split at e
        · rename_i hi
          split at e
          · rename_i xs hc
            obtain ⟨ys, e1, rfl⟩ := Option.map_eq_some_iff.mp e
            obtain ⟨hl, rfl⟩ := r
            obtain ⟨vs, eH, rr⟩ := D.M.cl i _ hc
            exact ⟨m i, vs, rfl, D.fz3 _ (hok i vs hi hl eH), D.kp _ _ eH, Side.inL D ih xs ys vs e1 rr⟩
          · cases e
        · cases e
      | tup xs =>
        obtain ⟨ys, e1, rfl⟩ := Option.map_eq_some_iff.mp e
        obtain ⟨q, vs, e2, h1, h2⟩ := r
        exact ⟨q, vs, e2, h1.imp_left fun z => D.kp _ _ z, Side.inL D ih xs ys vs e1 h2⟩
      | rol xs =>
        obtain ⟨ys, e1, rfl⟩ := Option.map_eq_some_iff.mp e
        obtain ⟨q, vs, e2, z, h1, h2⟩ := r
        exact ⟨q, vs, e2, D.fz2 _ z, D.kp _ _ h1, Side.inL D ih xs ys vs e1 h2⟩
      | obj c xs =>
        obtain ⟨ys, e1, rfl⟩ := Option.map_eq_some_iff.mp e
        obtain ⟨q, dx, gs, e2, z, h1, h2, h3, h4, h5⟩ := r
        have nb : m.nb = m2.nb := D.M.nb.trans D.M2.nb.symm
        rw [nb] at h1 h2 h3 h4
        exact ⟨q, dx, gs, e2, D.fz2 _ z, D.kp _ _ h1, h2, h3, h4, Side.inL D ih xs ys _ e1 h5⟩
      | _ => cases e
end
/-- nothing was handed over: the caller's heap is as it was -/
theorem Side.go0 (D : Side B K m s H T m2 h0 H1 0) (g : Go B K m2 h0 H1 m3 s3 H') : Go B K m s H (backM m.at_ s.length 0 m3 s3.length m.nb) s H' := by
  have A : AtOk m s m3 s3 0 s.length m.at_ := ⟨Nat.le_refl _, fun _ _ => rfl, fun i h1 h2 => by omega⟩
  refine ⟨fun a h => D.f2 g A h, fun a h => D.f4 g A h, Nat.le_refl _, fun _ _ => rfl, fun j h1 h2 => by omega, fun a o e h => D.f5 g e h, ⟨D.M.nb, fun i hi => D.nf g A hi, fun a h => D.fx g A h, D.M.inj, fun i c e => ?_⟩⟩
  have hi : i < s.length := (List.getElem?_eq_some_iff.mp e).1
  exact (D.M.cl i c e).le (D.le g A) (D.f7 g hi fun k hk => by omega)
theorem RVf.split : ∀ {fs : List (Nat × PV)} {gs : List (Str × V)}, RVf B K m n H fs gs → gs.map (·.1) = (fs.map (·.1)).map (nmOf B) ∧ (∀ k ∈ fs.map (·.1), k < B.nm.length) ∧ RVs K m n H (fs.map (·.2)) (gs.map (·.2))
  | [], _, h => by rw [show _ = [] from h]; exact ⟨rfl, fun k hk => by simp at hk, rfl⟩
  | (k, v) :: fs, _, h => by
    obtain ⟨x, q, rfl, hk, h1, h2⟩ := h
    obtain ⟨a, b, c⟩ := RVf.split h2
    exact ⟨by simp only [List.map_cons, a], fun j hj => by
      simp only [List.map_cons, List.mem_cons] at hj
      rcases hj with rfl | hj
      · exact hk
      · exact b j hj, ⟨x, _, rfl, h1, c⟩⟩
theorem RVf.unsplit : ∀ {ks : List Nat} {vs : List PV} {gs : List (Str × V)}, gs.map (·.1) = ks.map (nmOf B) → (∀ k ∈ ks, k < B.nm.length) → RVs K m n H vs (gs.map (·.2)) → RVf B K m n H (ks.zip vs) gs
  | [], [], gs, h1, _, h3 => by
    cases gs with
    | nil => rfl
    | cons g gs => cases h1
  | [], v :: vs, gs, h1, _, h3 => by
    cases gs with
    | nil => obtain ⟨x, q, e, _⟩ := h3; cases e
    | cons g gs => cases h1
  | k :: ks, [], gs, h1, _, h3 => by
    cases gs with
    | nil => cases h1
    | cons g gs => cases h3
  | k :: ks, v :: vs, gs, h1, h2, h3 => by
    cases gs with
    | nil => cases h1
    | cons g gs =>
      obtain ⟨x, q, e, h4, h5⟩ := h3
      simp only [List.map_cons, List.cons.injEq] at h1 e
      obtain ⟨a, b⟩ := g
      obtain ⟨h1, h6⟩ := h1
      obtain ⟨e1, e2⟩ := e
      subst e1; subst e2
      exact ⟨b, gs, by simp only at h1; rw [h1], h2 k (by simp), h4, RVf.unsplit h6 (fun j hj => h2 j (by simp [hj])) h5⟩
/-- the values of a cell -/
theorem CellOk.vals {a : Addr} {c : Cell} (h : CellOk B K m n H a c) : ∃ vs, RVs K m n H c.vals vs ∧ ∀ (m' : Mp) (n' : Nat) (xs : List PV), RVs K m' n' H xs vs → CellOk B K m' n' H a (c.upv xs) := by
  cases c with
  | lst ys => obtain ⟨vs, e, r⟩ := h; exact ⟨vs, r, fun m' n' xs r' => ⟨vs, e, r'⟩⟩
  | ins c fs =>
    obtain ⟨dx, gs, e, hc, r⟩ := h
    obtain ⟨a1, a2, a3⟩ := RVf.split r
    exact ⟨_, a3, fun m' n' xs r' => ⟨dx, gs, e, hc, RVf.unsplit a1 a2 r'⟩⟩
theorem CellOk.lift {a : Addr} {c : Cell} (fz2 : ∀ a, m.fz a → m2.fz a) (nb : m.nb = m2.nb) (p : c.pureB = true) (h : CellOk B K m n H a c) : CellOk B K m2 n' H a c := by
  cases c with
  | lst ys => obtain ⟨vs, e, r⟩ := h; exact ⟨vs, e, RVs.lift fz2 (fun _ _ e => e) nb _ _ p r⟩
  | ins c fs =>
    obtain ⟨dx, gs, e, hc, r⟩ := h
    obtain ⟨a1, a2, a3⟩ := RVf.split r
    refine ⟨dx, gs, e, hc, ?_⟩
    have := RVf.unsplit (n := n') a1 a2 (RVs.lift (n' := n') fz2 (fun _ _ e => e) nb _ _ p a3)
    have ez : ∀ l : List (Nat × PV), (l.map (·.1)).zip (l.map (·.2)) = l := fun l => by
      induction l with
      | nil => rfl
      | cons a l ih => simp only [List.map_cons, List.zip_cons_cons, ih]
    rw [show (fs.map (·.1)).zip (Cell.ins c fs).vals = fs from ez fs] at this
    exact this
section
variable (D : Side B K m s H T m2 h0 H1 lo) (g : Go B K m2 h0 H1 m3 s3 H')
include D g
theorem Side.goR {s4 : SH} (hl : s4.length = s.length) (hcell : ∀ i c, s4[i]? = some c → CellOk B K (backM m.at_ s.length lo m3 s3.length m.nb) s.length H' (m i) c) : Go B K m s H (backM m.at_ s.length lo m3 s3.length m.nb) s4 H' := by
  have A : AtOk m s m3 s3 lo s.length m.at_ := ⟨Nat.le_refl _, fun _ _ => rfl, fun i h1 h2 => by omega⟩
  refine ⟨fun a h => D.f2 g A h, fun a h => D.f4 g A h, by omega, fun _ _ => rfl, fun j h1 h2 => by omega, fun a o e h => D.f5 g e h, ⟨D.M.nb, fun i hi => D.nf g A (by omega), fun a h => D.fx g A h, fun i j hi hj => D.M.inj i j (by omega) (by omega), fun i c e => ?_⟩⟩
  rw [hl]
  exact hcell i c e
def newAt (m : Mp) (n : Nat) (p : Addr) : Nat → Addr := fun i => if i < n then m i else p
omit D g in
theorem newAt_ok {j : Nat} (h1 : lo ≤ j) (h2 : j < s3.length) : AtOk m s m3 s3 lo (s.length + 1) (newAt m s.length (m3 j)) :=
  ⟨by omega, fun i hi => by unfold newAt; rw [if_pos hi], fun i h3 h4 => ⟨j, h1, h2, by unfold newAt; rw [if_neg (by omega)]⟩⟩
theorem Side.goN {s4 : SH} {j : Nat} {ys : List PV} (h1 : lo ≤ j) (h2 : j < s3.length) (hl : s4.length = s.length)
    (hcell : ∀ i c, s4[i]? = some c → CellOk B K (backM (newAt m s.length (m3 j)) (s.length + 1) lo m3 s3.length m.nb) (s.length + 1) H' (m i) c)
    (hnew : CellOk B K (backM (newAt m s.length (m3 j)) (s.length + 1) lo m3 s3.length m.nb) (s.length + 1) H' (m3 j) (.lst ys)) : Go B K m s H (backM (newAt m s.length (m3 j)) (s.length + 1) lo m3 s3.length m.nb) (s4 ++ [.lst ys]) H' := by
  have A := newAt_ok (m := m) (s := s) (m3 := m3) (s3 := s3) h1 h2
  have hn : (s4 ++ [Cell.lst ys]).length = s.length + 1 := by simp [hl]
  have o : ∀ i, i < s.length → newAt m s.length (m3 j) i = m i := A.old
  have n : newAt m s.length (m3 j) s.length = m3 j := by unfold newAt; rw [if_neg (by omega)]
  refine ⟨fun a h => D.f2 g A h, fun a h => D.f4 g A h, by omega, fun i hi => o i hi, fun i h3 h4 => ?_, fun a o e h => D.f5 g e h, ⟨D.M.nb, fun i hi => D.nf g A (by omega), fun a h => D.fx g A h, fun i k hi hk e => ?_, fun i c e => ?_⟩⟩
  · have : i = s.length := by omega
    subst this
    show H (newAt m s.length (m3 j) s.length) = none
    rw [n]; exact D.f0 g h1 h2
  · have e : newAt m s.length (m3 j) i = newAt m s.length (m3 j) k := e
    by_cases hi' : i < s.length
    · by_cases hk' : k < s.length
      · rw [o i hi', o k hk'] at e; exact D.M.inj i k hi' hk' e
      · have : k = s.length := by omega
        rw [this, o i hi', n] at e; exact absurd e.symm (D.f1 g h1 h2 hi')
    · have hi'' : i = s.length := by omega
      by_cases hk' : k < s.length
      · rw [hi'', o k hk', n] at e; exact absurd e (D.f1 g h1 h2 hk')
      · omega
  · rw [hn]
    show CellOk B K _ _ H' (newAt m s.length (m3 j) i) c
    by_cases hi' : i < s.length
    · rw [List.getElem?_append_left (by omega)] at e
      rw [o i hi']; exact hcell i c e
    · rw [List.getElem?_append_right (by omega)] at e
      have e0 : i - s4.length = 0 := by
        cases q : i - s4.length with
        | zero => rfl
        | succ k => rw [q] at e; simp at e
      have : i = s.length := by omega
      rw [e0] at e
      simp at e
      subst e
      rw [this, n]; exact hnew
/-- what is given back -/
theorem Side.ret {F : FnI} {tf : Bool} {s4 : SH} {v : PV} {x : V} {Q : VK} (hl : s4.length = s.length) (ht : tf = false → ∀ a, ¬ T a)
    (hcell : ∀ at4 n4, AtOk m s m3 s3 lo n4 at4 → (∀ k, s.length ≤ k → k < n4 → F.fr = false ∧ ∃ j, v = .ref j ∧ at4 k = m3 j) → ∀ i c, s4[i]? = some c → CellOk B K (backM at4 n4 lo m3 s3.length m.nb) n4 H' (m i) c)
    (kon : Kon B K (RV K) (backV F tf lo v s3 s4) m s H Q) (r : RV K m3 s3.length H' v x) : Q x H' := by
  unfold backV at kon
  split at kon
  · exact (Kon.bad kon).elim
  · rename_i hnr
    have hnr : (∀ a, ¬ T a) ∨ nrV s3 16 v = true := by
      cases tf with
      | false => exact .inl (ht rfl)
      | true => right; simpa using hnr
    split at kon
    · rename_i hfr
      cases ew : fzV s3 (fun i => decide (lo ≤ i)) 16 v with
      | none => rw [ew] at kon; exact (Kon.bad kon).elim
      | some w =>
        rw [ew] at kon
        obtain ⟨_, _, e, k⟩ := kon
        cases e
        have A : AtOk m s m3 s3 lo s.length m.at_ := ⟨Nat.le_refl _, fun _ _ => rfl, fun i h1 h2 => by omega⟩
        refine k _ H' x (D.goR g hl (hcell _ _ A fun k h1 h2 => by omega)) ?_
        exact D.back g A (fun i h1 h2 => ⟨of_decide_eq_true h1, fun k h3 h4 => by omega⟩) 16 v w x ew hnr r
    · rename_i hfr
      cases v with
      | ref j =>
        dsimp only at kon
        split at kon
        · rename_i hj
          split at kon
          · rename_i xs hc
            cases ey : xs.mapM (fzV s3 (fun i => decide (lo ≤ i) && decide (i ≠ j)) 16) with
            | none => rw [ey] at kon; exact (Kon.bad kon).elim
            | some ys =>
              rw [ey] at kon
              obtain ⟨_, _, e, k⟩ := kon
              cases e
              have h2 : j < s3.length := (List.getElem?_eq_some_iff.mp hc).1
              have A := newAt_ok (m := m) (s := s) (m3 := m3) (s3 := s3) hj h2
              have n : newAt m s.length (m3 j) s.length = m3 j := by unfold newAt; rw [if_neg (by omega)]
              obtain ⟨us, eH, rr⟩ := g.mt.cl j _ hc
              obtain ⟨_, rfl⟩ := r
              have rys : RVs K (backM (newAt m s.length (m3 j)) (s.length + 1) lo m3 s3.length m.nb) (s.length + 1) H' ys us := by
                have hnr' : (∀ a, ¬ T a) ∨ xs.all (nrV s3 15) = true := hnr.imp_right fun q => by
                  rw [nrV_eq] at q
                  simp only [PV.pureB, Bool.false_eq_true, if_false, hc] at q; exact q
                refine D.mapL g A (nr := nrV s3 15) (fun v w x e t r => ?_) xs ys us ey hnr' rr
                refine D.back g A (ok := fun i => decide (lo ≤ i) && decide (i ≠ j)) (fun i h1 h3 => ?_) 16 v w x e (t.imp_right fun q => nrV_mono q) r
                simp only [Bool.and_eq_true, decide_eq_true_eq] at h1
                refine ⟨h1.1, fun k h4 h5 q => h1.2 ?_⟩
                have : k = s.length := by omega
                rw [this, n] at q
                exact g.mt.inj i j h3 h2 q
              refine k _ H' _ (D.goN g hj h2 hl (hcell _ _ A fun k h1 h3 => ⟨by simpa using hfr, j, rfl, ?_⟩) ⟨us, eH, rys⟩) ⟨?_, ?_⟩
              · have : k = s.length := by omega
                rw [this, n]
              · simp [hl]
              · rw [hl]
                show V.ref (m3 j) = V.ref (newAt m s.length (m3 j) s.length)
                rw [n]
          · exact (Kon.bad kon).elim
        · exact (Kon.bad kon).elim
      | _ => exact (Kon.bad kon).elim
end
theorem fzV_pure {ok : Nat → Bool} {v : PV} (h : v.pureB = true) : ∀ d, fzV s ok d v = some v
  | 0 => by simp only [fzV, h, if_true]
  | d + 1 => by rw [fzV_eq, if_pos h]
theorem fzL_pure {ok : Nat → Bool} {d : Nat} : ∀ {vs : List PV}, PV.pureL vs = true → vs.mapM (fzV s ok d) = some vs
  | [], _ => rfl
  | v :: vs, h => by
    simp only [PV.pureL, Bool.and_eq_true] at h
    rw [List.mapM_cons, fzV_pure h.1, fzL_pure h.2]; rfl
end
end CS
end CSBack_

section CSPrim_
set_option maxRecDepth 100000
set_option maxHeartbeats 1000000
namespace CS
open PySem L2
variable {z : Bool}

section
variable {B : Nm} {X : Cx}

theorem mulOk_cmul {i j : Int} (h : mulOk i j = true) : CMul i j := by
  unfold mulOk at h
  simp only [Bool.or_eq_true, decide_eq_true_eq] at h
  rcases h with h | h
  · left; omega
  · right; omega
/-- what + means -/
def rAddU (K : PySem.W.Frag) : R2 := fun x y H Q => (∃ i j, x = .int i ∧ y = .int j ∧ Q (.int (i + j)) H) ∨ ((∃ i j, x = .str i ∧ y = .str j ∧ i.length + j.length ≤ sizeLine ∧ Q (.str (i ++ j)) H) ∨ (rCatA K x y H Q ∨ rCat x y H Q))
theorem op_addU : OpR X (binaryOp .Add) (rAddU X.K) := OpR.or op_add (OpR.or op_add_str (OpR.or op_catA op_cat))
def rMulS : R2 := fun x y H Q => ∃ i j, x = .str i ∧ y = .int j ∧ MulOk i j ∧ Q (.str (Txt.mul i j)) H
theorem op_mulS : OpR X (binaryOp .Mult) rMulS := by
  intro pins s σ H x y v u Q I rx ry h
  obtain ⟨i, j, rfl, rfl, hz, q⟩ := h
  obtain ⟨t, rfl⟩ := rx
  obtain ⟨t', rfl⟩ := ry
  exact PySem.SB.mul hz fun t' k => ⟨.str _, H, I.tok _, ⟨_, rfl⟩, q⟩
theorem fold_app (cs : Array Nat) : ∀ (n : Nat) (acc : Array Nat), (List.replicate n cs).foldl (· ++ ·) acc = acc ++ ((List.replicate n cs.toList).flatten).toArray
  | 0, acc => by simp
  | n + 1, acc => by
    rw [List.replicate_succ, List.foldl_cons, fold_app cs n, List.replicate_succ, List.flatten_cons]
    apply Array.ext'
    simp
theorem mul_rep {a : PySem.Str} {k : Int} : Txt.mul a k = repS a k.toNat := by
  unfold Txt.mul repS
  by_cases h1 : k < 1
  · rw [if_pos h1, show k.toNat = 0 by omega]; rfl
  · rw [if_neg h1]
    split
    · rename_i h2
      simp only [Bool.or_eq_true, beq_iff_eq] at h2
      rcases h2 with h2 | h2
      · subst h2
        show a = ⟨(List.replicate 1 a.cps.toList).flatten.toArray⟩
        simp
      · have e : a.cps.toList = [] := List.eq_nil_of_length_eq_zero (by rw [Array.length_toList]; exact h2)
        rw [e]
        have : (List.replicate k.toNat ([] : List Nat)).flatten = [] := by simp
        rw [this]
        obtain ⟨cs⟩ := a
        have : cs = #[] := Array.ext' (by simpa using e)
        rw [this]
    · rw [fold_app]; simp
theorem mul_okS {a : PySem.Str} {k : Int} (h1 : lim63 k = true) (h2 : a.length * k.toNat ≤ sizeL) : MulOk a k := by
  rw [lim63_iff] at h1
  have h3 : a.length * k.toNat ≤ 16777216 := h2
  refine ⟨?_, fun h _ => ?_, fun h _ => ?_⟩
  · have a1 : ¬ k < -(2 ^ 63 : Int) := by omega
    have a2 : ¬ k ≥ (2 ^ 63 : Int) := by omega
    simp [a1, a2]; omega
  · have e : (a.length : Int) * k ≤ 2 ^ 63 - 1 := by
      have : ((a.length * k.toNat : Nat) : Int) ≤ 16777216 := by omega
      rw [Int.natCast_mul, Int.toNat_of_nonneg (by omega)] at this
      omega
    have := Int.le_ediv_of_mul_le (by omega : 0 < k) e
    omega
  · show decide (a.length * k.toNat > sizeLine) = false
    simp only [decide_eq_false_iff_not]
    have : sizeLine = 16777216 := by decide
    omega
def rMulU : R2 := fun x y H Q => rI CMul (fun i j => .int (i * j)) x y H Q ∨ (rRep x y H Q ∨ rMulS x y H Q)
theorem op_mulU : OpR X (binaryOp .Mult) rMulU := OpR.or op_mul (OpR.or op_rep op_mulS)

theorem sizeL_eq : sizeL = sizeLine := rfl

theorem ownL_ok {m : Mp} {s : SH} {H : Hp} {v : PV} {x : V} {xs : List PV} (M : Match B X.K m s H) (e : ownL s v = some xs) (r : RV X.K m s.length H v x) : ∃ p vs, x = .ref p ∧ H p = some (.lst vs) ∧ RVs X.K m s.length H xs vs := by
  cases v with
  | rol ys => cases e; obtain ⟨p, vs, e1, _, q, r⟩ := r; exact ⟨p, vs, e1, q, r⟩
  | ref n =>
    simp only [ownL] at e
    cases hc : s[n]? with
    | none => rw [hc] at e; cases e
    | some c =>
      rw [hc] at e
      cases c with
      | ins c fs => cases e
      | lst ys =>
        cases e
        obtain ⟨vs, e2, rr⟩ := M.cl n _ hc
        exact ⟨m n, vs, r.2, e2, rr⟩
  | _ => cases e
theorem kon_add {m : Mp} {s : SH} {H : Hp} {v w : PV} {x y : V} {Q : VK} (M : Match B X.K m s H) (rx : RV X.K m s.length H v x) (ry : RV X.K m s.length H w y)
    (k : Kon B X.K (RV X.K) (effO z (binP s .add v w) s 11) m s H Q) : rAddU X.K x y H Q := by
  obtain ⟨a, e, k⟩ := Kon.effO k
  have cat : ∀ v, ((ownL s v).bind fun xs => (ownL s w).bind fun ys => if xs.length + ys.length ≤ sizeL then some (Eff.new (.lst (xs ++ ys))) else none) = some a → RV X.K m s.length H v x → rAddU X.K x y H Q := fun v e rx => by
    obtain ⟨xs, h1, e⟩ := Option.bind_eq_some_iff.mp e
    obtain ⟨ys, h2, e⟩ := Option.bind_eq_some_iff.mp e
    split at e
    · rename_i hl
      cases e
      obtain ⟨p, vs, rfl, e1, r1⟩ := ownL_ok M h1 rx
      obtain ⟨q, ws, rfl, e2, r2⟩ := ownL_ok M h2 ry
      exact .inr (.inr (.inr ⟨p, q, vs, ws, rfl, rfl, e1, e2, by rw [r1.length, r2.length]; exact hl, fun p hp => Kon.lst M k (RVs.append r1 r2) hp⟩))
    · cases e
  cases v with
  | int i =>
    cases w with
    | int j => cases e; cases rx; cases ry; exact .inl ⟨i, j, rfl, rfl, Kon.val M k rfl⟩
    | _ => cases e
  | str a =>
    cases w with
    | str b =>
      simp only [binP] at e
      split at e
      · rename_i hl; cases e; cases rx; cases ry; exact .inr (.inl ⟨a, b, rfl, rfl, hl, Kon.val M k rfl⟩)
      · cases e
    | _ => cases e
  | tup xs =>
    cases w with
    | tup ys =>
      simp only [binP] at e
      split at e
      · rename_i hl
        cases e
        obtain ⟨p, vs, rfl, hp, r1⟩ := rx
        obtain ⟨q, ws, rfl, hq, r2⟩ := ry
        refine .inr (.inr (.inl ⟨p, q, vs, ws, rfl, rfl, hp.sq, hq.sq, by rw [r1.length, r2.length]; exact hl, fun e0 => ?_, fun h0 e0 => ?_, fun h1 h2 a ha => Kon.tup M k (RVs.append r1 r2) ha⟩))
        · have : xs = [] := List.eq_nil_of_length_eq_zero (by rw [← r1.length, e0]; rfl)
          subst this
          exact Kon.val M k ⟨q, ws, rfl, hq, r2⟩
        · have : ys = [] := List.eq_nil_of_length_eq_zero (by rw [← r2.length, e0]; rfl)
          subst this
          refine Kon.val M k ⟨p, vs, rfl, hp, ?_⟩
          rw [List.append_nil]; exact r1
      · cases e
    | _ => cases e
  | rol xs => exact cat (.rol xs) (by cases w <;> exact e) rx
  | ref n => exact cat (.ref n) (by cases w <;> exact e) rx
  | _ => cases e
theorem kon_mul {m : Mp} {s : SH} {H : Hp} {v w : PV} {x y : V} {Q : VK} (M : Match B X.K m s H) (rx : RV X.K m s.length H v x) (ry : RV X.K m s.length H w y)
    (k : Kon B X.K (RV X.K) (effO z (binP s .mul v w) s 11) m s H Q) : rMulU x y H Q := by
  obtain ⟨a, e, k⟩ := Kon.effO k
  have rep : ∀ v, (match w with | .int k => ((ownL s v).bind fun xs => if lim63 k && decide (xs.length * k.toNat ≤ sizeL) then some (Eff.new (.lst (List.replicate k.toNat xs).flatten)) else none) | _ => none) = some a → RV X.K m s.length H v x → rMulU x y H Q := fun v e rx => by
    cases w with
    | int j =>
      obtain ⟨xs, h1, e⟩ := Option.bind_eq_some_iff.mp e
      split at e
      · rename_i hl
        simp only [lim63_iff, Bool.and_eq_true, decide_eq_true_eq] at hl
        cases e; cases ry
        obtain ⟨p, vs, rfl, e1, r1⟩ := ownL_ok M h1 rx
        refine .inr (.inl ⟨p, j, vs, rfl, rfl, e1, by omega, by omega, by rw [r1.length]; exact hl.2, fun p hp => ?_⟩)
        exact Kon.lst M k (RVs.reps j.toNat r1) hp
      · cases e
    | _ => cases e
  cases v with
  | int i =>
    cases w with
    | int j =>
      simp only [binP] at e
      split at e
      · rename_i h; cases e; cases rx; cases ry; exact .inl ⟨i, j, rfl, rfl, mulOk_cmul h, Kon.val M k rfl⟩
      · cases e
    | _ => cases e
  | str t =>
    cases w with
    | int j =>
      simp only [binP] at e
      split at e
      · rename_i h
        simp only [Bool.and_eq_true, decide_eq_true_eq] at h
        cases e; cases rx; cases ry
        exact .inr (.inr ⟨t, j, rfl, rfl, mul_okS h.1 h.2, Kon.val M k (by rw [mul_rep]; rfl)⟩)
      · cases e
    | _ => cases e
  | rol xs => exact rep (.rol xs) (by cases w <;> exact e) rx
  | ref n => exact rep (.ref n) (by cases w <;> exact e) rx
  | _ => cases w <;> cases e
theorem kon_sub {m : Mp} {s : SH} {H : Hp} {v w : PV} {x y : V} {Q : VK} (M : Match B X.K m s H) (rx : RV X.K m s.length H v x) (ry : RV X.K m s.length H w y)
    (k : Kon B X.K (RV X.K) (effO z (binP s .sub v w) s 11) m s H Q) : rI0 (fun i j => .int (i - j)) x y H Q := by
  obtain ⟨a, e, k⟩ := Kon.effO k
  cases v with
  | int i =>
    cases w with
    | int j => cases e; cases rx; cases ry; exact ⟨i, j, rfl, rfl, Kon.val M k rfl⟩
    | _ => cases e
  | _ => cases e
def rFdivU : R2 := fun x y H Q => rI CDivW (fun i j => .int (i / j)) x y H Q ∨ rI CDivN (fun i j => .int (i.fdiv j)) x y H Q
theorem op_fdivU : OpR X (binaryOp .FloorDiv) rFdivU := OpR.or op_fdivW op_fdivN
theorem kon_fdiv {m : Mp} {s : SH} {H : Hp} {v w : PV} {x y : V} {Q : VK} (M : Match B X.K m s H) (rx : RV X.K m s.length H v x) (ry : RV X.K m s.length H w y)
    (k : Kon B X.K (RV X.K) (effO z (binP s .fdiv v w) s 11) m s H Q) : rFdivU x y H Q := by
  obtain ⟨a, e, k⟩ := Kon.effO k
  cases v with
  | int i =>
    cases w with
    | int j =>
      simp only [binP] at e
      split at e
      · rename_i h; cases e; cases rx; cases ry; exact .inl ⟨i, j, rfl, rfl, h, Kon.val M k rfl⟩
      · split at e
        · rename_i h; cases e; cases rx; cases ry; exact .inr ⟨i, j, rfl, rfl, ⟨by omega, h.2⟩, Kon.val M k rfl⟩
        · cases e
    | _ => cases e
  | _ => cases e
theorem kon_mod {m : Mp} {s : SH} {H : Hp} {v w : PV} {x y : V} {Q : VK} (M : Match B X.K m s H) (rx : RV X.K m s.length H v x) (ry : RV X.K m s.length H w y)
    (k : Kon B X.K (RV X.K) (effO z (binP s .mod v w) s 11) m s H Q) : rI (fun _ j => 0 < j) (fun i j => .int (i % j)) x y H Q := by
  obtain ⟨a, e, k⟩ := Kon.effO k
  cases v with
  | int i =>
    cases w with
    | int j =>
      simp only [binP] at e
      split at e
      · rename_i h; cases e; cases rx; cases ry; exact ⟨i, j, rfl, rfl, h, Kon.val M k rfl⟩
      · cases e
    | _ => cases e
  | _ => cases e
theorem kon_pow {m : Mp} {s : SH} {H : Hp} {v w : PV} {x y : V} {Q : VK} (M : Match B X.K m s H) (rx : RV X.K m s.length H v x) (ry : RV X.K m s.length H w y)
    (k : Kon B X.K (RV X.K) (effO z (binP s .pow v w) s 11) m s H Q) : rI CPow (fun i j => .int (i ^ j.toNat)) x y H Q := by
  obtain ⟨a, e, k⟩ := Kon.effO k
  cases v with
  | int i =>
    cases w with
    | int j =>
      simp only [binP] at e
      split at e
      · rename_i h; cases e; cases rx; cases ry; exact ⟨i, j, rfl, rfl, h, Kon.val M k rfl⟩
      · cases e
    | _ => cases e
  | _ => cases e

/-! ### data compared -/
mutual
def Da.py : Da → PyData
  | .non => .none
  | .bl b => .bool b
  | .int i => .int i
  | .str s => .str s
  | .lst xs => .list (Da.pyL xs)
  | .tup xs => .tuple (Da.pyL xs)
def Da.pyL : List Da → List PyData
  | [] => []
  | x :: xs => Da.py x :: Da.pyL xs
end

mutual
theorem Da.eqv_py : ∀ a b : Da, PyData.eqv a.py b.py = a.eqv b
  | .non, b => by cases b <;> simp [Da.py, Da.eqv, PyData.eqv]
  | .bl a, b => by cases b <;> simp [Da.py, Da.eqv, PyData.eqv]
  | .int i, b => by cases b <;> simp [Da.py, Da.eqv, PyData.eqv]
  | .str x, b => by
    cases b with
    | str y => simp only [Da.py, Da.eqv, PyData.eqv]; rfl
    | _ => simp [Da.py, Da.eqv, PyData.eqv]
  | .lst xs, b => by
    cases b with
    | lst ys => simp only [Da.py, Da.eqv, PyData.eqv]; exact Da.eqvL_py xs ys
    | _ => simp [Da.py, Da.eqv, PyData.eqv]
  | .tup xs, b => by
    cases b with
    | tup ys => simp only [Da.py, Da.eqv, PyData.eqv]; exact Da.eqvL_py xs ys
    | _ => simp [Da.py, Da.eqv, PyData.eqv]
theorem Da.eqvL_py : ∀ a b : List Da, PyData.eqvAll (Da.pyL a) (Da.pyL b) = Da.eqvL a b
  | [], [] => by simp [Da.pyL, Da.eqvL, PyData.eqvAll]
  | [], _ :: _ => by simp [Da.pyL, Da.eqvL, PyData.eqvAll]
  | _ :: _, [] => by simp [Da.pyL, Da.eqvL, PyData.eqvAll]
  | x :: xs, y :: ys => by simp only [Da.pyL, Da.eqvL, PyData.eqvAll]; rw [Da.eqv_py x y, Da.eqvL_py xs ys]
end
theorem mapM_cons' {α β : Type} {f : α → Option β} {x : α} {xs : List α} {ys : List β} (h : (x :: xs).mapM f = some ys) : ∃ y r, ys = y :: r ∧ f x = some y ∧ xs.mapM f = some r := by
  rw [List.mapM_cons] at h
  cases e : f x with
  | none => rw [e] at h; cases h
  | some y =>
    rw [e] at h
    cases e2 : xs.mapM f with
    | none => rw [e2] at h; cases h
    | some r => rw [e2] at h; cases h; exact ⟨y, r, rfl, rfl, rfl⟩
theorem mapM_nil' {α β : Type} {f : α → Option β} {ys : List β} (h : ([] : List α).mapM f = some ys) : ys = [] := by
  rw [List.mapM_nil] at h; cases h; rfl
theorem daL_ok {K : PySem.W.Frag} {H : Hp} {m : Mp} {n : Nat} {f : PV → Option Da} {d : Nat} (ih : ∀ v x a, f v = some a → RV K m n H v x → Dp K H x a.py ∧ a.py.canLay0 = true ∧ a.py.depth ≤ d) :
    ∀ (xs : List PV) (vs : List V) (as : List Da), xs.mapM f = some as → RVs K m n H xs vs → DpAll K H vs (Da.pyL as) ∧ PyData.canLayAll0 (Da.pyL as) = true ∧ PyData.depthAll (Da.pyL as) ≤ d
  | [], vs, as, e, r => by
    rw [mapM_nil' e, show vs = [] from r]
    exact ⟨.nil, rfl, Nat.zero_le _⟩
  | x :: xs, vs, as, e, r => by
    obtain ⟨a, as', rfl, e1, e2⟩ := mapM_cons' e
    obtain ⟨v, vs', rfl, r1, r2⟩ := r
    obtain ⟨h1, h2, h3⟩ := ih x v a e1 r1
    obtain ⟨k1, k2, k3⟩ := daL_ok ih xs vs' as' e2 r2
    refine ⟨.cons h1 k1, ?_, ?_⟩
    · simp only [Da.pyL, PyData.canLayAll0, h2, k2, Bool.and_self]
    · simp only [Da.pyL, PyData.depthAll]; omega
theorem daOf_ok {B : Nm} {K : PySem.W.Frag} {H : Hp} {m : Mp} {s : SH} (M : Match B K m s H) : ∀ (d : Nat) (v : PV) (x : V) (a : Da), daOf s d v = some a → RV K m s.length H v x → Dp K H x a.py ∧ a.py.canLay0 = true ∧ a.py.depth ≤ d
  | d, .non, x, a, e, r => by simp only [daOf] at e; cases e; cases r; exact ⟨.non, rfl, Nat.zero_le _⟩
  | d, .bl b, x, a, e, r => by simp only [daOf] at e; cases e; cases r; exact ⟨.bl b, rfl, Nat.zero_le _⟩
  | d, .int i, x, a, e, r => by simp only [daOf] at e; cases e; cases r; exact ⟨.int i, rfl, Nat.zero_le _⟩
  | d, .str z, x, a, e, r => by
    simp only [daOf] at e
    split at e
    · rename_i hz
      cases e; cases r
      refine ⟨.str z, ?_, Nat.zero_le _⟩
      show z.cps.all (· < 0x110000) = true
      rw [← Array.all_toList]
      exact hz
    · cases e
  | 0, .tup xs, x, a, e, r => by simp only [daOf] at e; cases e
  | 0, .scr xs, x, a, e, r => by simp only [daOf] at e; cases e
  | 0, .rol xs, x, a, e, r => by simp only [daOf] at e; cases e
  | 0, .obj c xs, x, a, e, r => by simp only [daOf] at e; cases e
  | d + 1, .obj c xs, x, a, e, r => by simp only [daOf] at e; cases e
  | 0, .ref i, x, a, e, r => by simp only [daOf] at e; cases e
  | d + 1, .tup xs, x, a, e, r => by
    simp only [daOf] at e
    obtain ⟨as, e1, e2⟩ := Option.map_eq_some_iff.mp e
    subst e2
    obtain ⟨p, vs, rfl, hp, rr⟩ := r
    obtain ⟨h1, h2, h3⟩ := daL_ok (fun v x a e r => daOf_ok M d v x a e r) xs vs as e1 rr
    exact ⟨.tup hp.sq h1, h2, by simp only [Da.py, PyData.depth]; omega⟩
  | d + 1, .scr xs, x, a, e, r => by
    simp only [daOf] at e
    obtain ⟨as, e1, e2⟩ := Option.map_eq_some_iff.mp e
    subst e2
    obtain ⟨p, vs, rfl, hp, rr⟩ := r
    obtain ⟨h1, h2, h3⟩ := daL_ok (fun v x a e r => daOf_ok M d v x a e r) xs vs as e1 rr
    exact ⟨.lst hp.sq h1, h2, by simp only [Da.py, PyData.depth]; omega⟩
  | d + 1, .rol xs, x, a, e, r => by
    simp only [daOf] at e
    obtain ⟨as, e1, e2⟩ := Option.map_eq_some_iff.mp e
    subst e2
    obtain ⟨p, vs, rfl, _, hp, rr⟩ := r
    obtain ⟨h1, h2, h3⟩ := daL_ok (fun v x a e r => daOf_ok M d v x a e r) xs vs as e1 rr
    exact ⟨.lst (.of hp) h1, h2, by simp only [Da.py, PyData.depth]; omega⟩
  | d + 1, .ref i, x, a, e, r => by
    simp only [daOf] at e
    split at e
    · rename_i xs hc
      obtain ⟨as, e1, e2⟩ := Option.map_eq_some_iff.mp e
      subst e2
      obtain ⟨vs, e2, rr⟩ := M.cl i _ hc
      obtain ⟨_, rfl⟩ := r
      obtain ⟨h1, h2, h3⟩ := daL_ok (fun v x a e r => daOf_ok M d v x a e r) xs vs as e1 rr
      exact ⟨.lst (.inl (.inl e2)) h1, h2, by simp only [Da.py, PyData.depth]; omega⟩
    · cases e
theorem eqP_ok {m : Mp} {s : SH} {H : Hp} {v w : PV} {x y : V} {b : Bool} (M : Match B X.K m s H) (rx : RV X.K m s.length H v x) (ry : RV X.K m s.length H w y) (e : eqP s v w = some b) :
    ∃ d f, Dp X.K H x d ∧ Dp X.K H y f ∧ SeqAt.shaped d = true ∧ SeqAt.shaped f = true ∧ PyData.eqv d f = b := by
  unfold eqP at e
  cases e1 : daOf s 8 v with
  | none => rw [e1] at e; cases e
  | some a =>
    rw [e1] at e
    cases e2 : daOf s 8 w with
    | none => rw [e2] at e; cases e
    | some c =>
      rw [e2] at e
      cases e
      obtain ⟨h1, h2, h3⟩ := daOf_ok M 8 v x a e1 rx
      obtain ⟨k1, k2, k3⟩ := daOf_ok M 8 w y c e2 ry
      refine ⟨a.py, c.py, h1, k1, ?_, ?_, Da.eqv_py a c⟩
      · unfold SeqAt.shaped; rw [h2]; simp; omega
      · unfold SeqAt.shaped; rw [k2]; simp; omega

/-- what a comparison of two plain values means, all operators -/
def cmpR (K : PySem.W.Frag) : CmpOp → R2
  | .Eq => rEqD K
  | .NotEq => rNeD K
  | .Lt => rI0 fun i j => .bl (decide (i < j))
  | .LtE => rI0 fun i j => .bl (decide (i ≤ j))
  | .Gt => rI0 fun i j => .bl (decide (j < i))
  | .GtE => rI0 fun i j => .bl (decide (j ≤ i))
  | .Is => fun x y H Q => y = .non ∧ Q (.bl (decide (x = .non))) H
  | .IsNot => fun x y H Q => y = .non ∧ Q (.bl (!decide (x = .non))) H
  | .In => fun x y H Q => rIn K false x y H Q ∨ rInS x y H Q
  | .NotIn => fun x y H Q => rIn K true x y H Q ∨ rNotInS x y H Q
theorem op_cmpR (hu : X.A.units + 64 < cLine) : ∀ op, OpR X (compareOp op) (cmpR X.K op)
  | .Eq => op_eqD hu
  | .NotEq => op_neD hu
  | .Lt => op_lt
  | .LtE => op_le
  | .Gt => op_gt
  | .GtE => op_ge
  | .Is => op_isN
  | .IsNot => op_notN
  | .In => OpR.or op_in_seq op_inS
  | .NotIn => OpR.or op_notIn_seq op_notInS
theorem flat_ok {K : PySem.W.Frag} {m : Mp} {n : Nat} {H : Hp} {v : PV} {x : V} (h : v.flat = true) (r : RV K m n H v x) : flatV x = true := by
  cases v with
  | non => cases r; rfl
  | bl b => cases r; rfl
  | int b => cases r; rfl
  | str b => cases r; rfl
  | _ => cases h
theorem eqF_ok {K : PySem.W.Frag} {m : Mp} {n : Nat} {H : Hp} {v w : PV} {x y : V} (h : v.flat = true) (h' : w.flat = true) (r : RV K m n H v x) (r' : RV K m n H w y) : eqV x y = v.eqF w := by
  cases v <;> first | (cases h; done) | skip
  all_goals cases w <;> first | (cases h'; done) | (cases r; cases r'; rfl)
theorem in_ok {K : PySem.W.Frag} {m : Mp} {n : Nat} {H : Hp} {v : PV} {x : V} (h : v.flat = true) (r : RV K m n H v x) : ∀ {xs : List PV} {vs : List V}, xs.all PV.flat = true → RVs K m n H xs vs → vs.all flatV = true ∧ inV x vs = xs.any fun z => z.eqF v
  | [], vs, _, rr => by rw [show vs = [] from rr]; exact ⟨rfl, rfl⟩
  | z :: xs, vs, ha, rr => by
    obtain ⟨y, ws, rfl, r1, r2⟩ := rr
    simp only [List.all_cons, Bool.and_eq_true] at ha
    obtain ⟨i1, i2⟩ := in_ok h r ha.2 r2
    refine ⟨by rw [List.all_cons, flat_ok ha.1 r1, i1]; rfl, ?_⟩
    unfold inV at i2 ⊢
    rw [List.any_cons, List.any_cons, eqF_ok ha.1 h r1 r, i2]
theorem inP_ok {B : Nm} {K : PySem.W.Frag} {m : Mp} {s : SH} {H : Hp} {v w : PV} {x y : V} {b : Bool} (M : Match B K m s H) (rx : RV K m s.length H v x) (ry : RV K m s.length H w y) (e : inP s v w = some b) :
    (∃ p xs, y = .ref p ∧ (SqL K H p xs ∨ SqT K H p xs) ∧ flatV x = true ∧ xs.all flatV = true ∧ inV x xs = b) ∨ ∃ (c : Nat) (z : Str), x = .str ⟨#[c]⟩ ∧ y = .str z ∧ decide (c ∈ z.cps.toList) = b := by
  have seq : ((seqOf s w).bind fun xs => if v.flat && xs.all PV.flat then some (xs.any fun z => z.eqF v) else none) = some b → (∃ p xs, y = .ref p ∧ (SqL K H p xs ∨ SqT K H p xs) ∧ flatV x = true ∧ xs.all flatV = true ∧ inV x xs = b) := fun e => by
    obtain ⟨xs, e1, e⟩ := Option.bind_eq_some_iff.mp e
    split at e
    · rename_i hf
      simp only [Bool.and_eq_true] at hf
      cases e
      obtain ⟨p, vs, rfl, hq, rr⟩ := seqOf_ok M e1 ry
      obtain ⟨a1, a2⟩ := in_ok hf.1 rx hf.2 rr
      exact ⟨p, vs, rfl, hq, flat_ok hf.1 rx, a1, a2⟩
    · cases e
  cases w with
  | str z =>
    right
    simp only [inP] at e
    cases v with
    | str t =>
      simp only at e
      split at e
      · rename_i c hc
        cases e; cases rx; cases ry
        refine ⟨c, z, ?_, rfl, rfl⟩
        congr 1
        obtain ⟨a⟩ := t
        congr 1
        exact Array.toList_inj.mp hc
      · cases e
    | _ => cases e
  | _ => exact .inl (seq e)
theorem isNon {m : Mp} {n : Nat} {H : Hp} {K : PySem.W.Frag} {v : PV} {x : V} (r : RV K m n H v x) : decide (x = V.non) = v.isN := by
  cases v with
  | non => cases r; rfl
  | bl b => cases r; rfl
  | int b => cases r; rfl
  | str b => cases r; rfl
  | tup xs => obtain ⟨p, vs, rfl, _⟩ := r; rfl
  | scr xs => obtain ⟨p, vs, rfl, _⟩ := r; rfl
  | rol xs => obtain ⟨p, vs, rfl, _⟩ := r; rfl
  | obj c xs => obtain ⟨p, dx, gs, rfl, _⟩ := r; rfl
  | ref i => obtain ⟨_, rfl⟩ := r; rfl
theorem kon_cmp {m : Mp} {s : SH} {H : Hp} {v w : PV} {x y : V} {Q : VK} {op : CmpOp} {o : CmpO} {b : Bool} (ho : cmpOf op = some o) (M : Match B X.K m s H) (rx : RV X.K m s.length H v x) (ry : RV X.K m s.length H w y)
    (e : cmpP s o v w = some b) (q : Q (.bl b) H) : cmpR X.K op x y H Q := by
  cases op <;> cases ho
  · obtain ⟨d, f, h1, h2, h3, h4, h5⟩ := eqP_ok M rx ry (show eqP s v w = some b by simpa only [cmpP] using e)
    exact ⟨d, f, h1, h2, h3, h4, by rw [h5]; exact q⟩
  · simp only [cmpP] at e
    obtain ⟨c, e1, e2⟩ := Option.map_eq_some_iff.mp e
    obtain ⟨d, f, h1, h2, h3, h4, h5⟩ := eqP_ok M rx ry e1
    exact ⟨d, f, h1, h2, h3, h4, by rw [h5, e2]; exact q⟩
  · cases v <;> cases w <;> simp only [cmpP] at e <;> first | (cases e; done) | (cases e; cases rx; cases ry; exact ⟨_, _, rfl, rfl, q⟩)
  · cases v <;> cases w <;> simp only [cmpP] at e <;> first | (cases e; done) | (cases e; cases rx; cases ry; exact ⟨_, _, rfl, rfl, q⟩)
  · cases v <;> cases w <;> simp only [cmpP] at e <;> first | (cases e; done) | (cases e; cases rx; cases ry; exact ⟨_, _, rfl, rfl, q⟩)
  · cases v <;> cases w <;> simp only [cmpP] at e <;> first | (cases e; done) | (cases e; cases rx; cases ry; exact ⟨_, _, rfl, rfl, q⟩)
  · cases w with
    | non => cases ry; refine ⟨rfl, ?_⟩; rw [isNon rx]; simp only [cmpP] at e; cases e; exact q
    | _ => simp only [cmpP] at e; cases e
  · cases w with
    | non => cases ry; refine ⟨rfl, ?_⟩; rw [isNon rx]; simp only [cmpP] at e; cases e; exact q
    | _ => simp only [cmpP] at e; cases e
  · have e : inP s v w = some b := by simpa only [cmpP] using e
    rcases inP_ok M rx ry e with ⟨p, xs, h1, h2, h3, h4, h5⟩ | ⟨c, z, h1, h2, h3⟩
    · exact .inl ⟨p, xs, h1, h2, h3, h4, by rw [if_neg (by simp), h5]; exact q⟩
    · exact .inr ⟨c, z, h1, h2, by rw [h3]; exact q⟩
  · simp only [cmpP] at e
    obtain ⟨d, e, e2⟩ := Option.map_eq_some_iff.mp e
    rcases inP_ok M rx ry e with ⟨p, xs, h1, h2, h3, h4, h5⟩ | ⟨c, z, h1, h2, h3⟩
    · exact .inl ⟨p, xs, h1, h2, h3, h4, by rw [if_pos rfl, h5, e2]; exact q⟩
    · exact .inr ⟨c, z, h1, h2, by rw [h3, e2]; exact q⟩
end
end CS
end CSPrim_

section CSPrim2_
set_option maxRecDepth 100000
set_option maxHeartbeats 1000000
namespace CS
open PySem L2
variable {z : Bool}

theorem star_plain {e : Expr} {es : List Expr} {env : Env} (h : PySem.W.isStarred e = false) : starEach (e :: es) env = (false, eval e env) :: starEach es env := by
  cases e <;> first | rfl | cases h
def plainArgs (es : List Expr) : Bool := es.all fun e => !PySem.W.isStarred e
theorem star_any {pos : Pos} {env : Env} : ∀ {es : List Expr}, plainArgs es = true → (backTo pos (starEach es env)).any (·.1) = false
  | [], _ => rfl
  | e :: es, h => by
    simp only [plainArgs, List.all_cons, Bool.and_eq_true, Bool.not_eq_true'] at h
    rw [star_plain h.1]
    show (false || (backTo pos (starEach es env)).any (·.1)) = false
    rw [Bool.false_or]
    exact star_any (es := es) (by simpa [plainArgs] using h.2)
theorem plain_cons {e : Expr} {es : List Expr} (h : plainArgs (e :: es) = true) : PySem.W.isStarred e = false ∧ plainArgs es = true := by
  simp only [plainArgs, List.all_cons, Bool.and_eq_true, Bool.not_eq_true'] at h
  exact ⟨h.1, by simpa [plainArgs] using h.2⟩

section
variable {B : Nm} {X : Cx} {e a b c o : Expr} {es : List Expr} {pos apos p p2 : Pos} {ra rb rc ro : Sl → SH → R PV} {rs : Sl → SH → R (List PV)} {tA tB tC : Sl → SH → R Bool} {x : Str}

/-- a call of a built-in function -/
theorem se_callB {id : String} {r : List V → Hp → VK → Prop} (g : List PV → SH → R PV) (hc : CallR X (.builtin id) r) (hg : Gl X x) (hm : X.mg x = none) (hv : bootBuiltins x = some (.builtin id)) (ha : SA B X (e :: es) rs) (hp : plainArgs (e :: es) = true)
    (hn : x ≠ "__name__") (hdb : (x == ("__debug__" : Str)) = false)
    (h : ∀ m s H vs xs Q, Match B X.K m s H → RVs X.K m s.length H vs xs → Kon B X.K (RV X.K) (g vs s) m s H Q → r xs H Q) :
    SE B X (.Call (.Name x p) (e :: es) [] pos) (fun σ s => (rs σ s).bind fun vs s => g vs s) :=
  (pe_callB hc hg hm hv ha hn hdb (star_plain (plain_cons hp).1) (star_any (plain_cons hp).2)).imp fun τ H Q ⟨m, s, σ, st, k⟩ =>
    TAi.bind (f := fun σ vs s => g vs s) st k fun vs s1 m1 H1 xs g1 st1 rvs k1 => h m1 s1 H1 vs xs Q st1.mt rvs k1
theorem se_callTy {T : String} {r : List V → Hp → VK → Prop} (g : List PV → SH → R PV) (hc : CallR X (.type T) r) (hg : Gl X x) (hm : X.mg x = none) (hv : bootBuiltins x = some (.type T)) (ha : SA B X (e :: es) rs) (hp : plainArgs (e :: es) = true)
    (hn : x ≠ "__name__") (hdb : (x == ("__debug__" : Str)) = false)
    (h : ∀ m s H vs xs Q, Match B X.K m s H → RVs X.K m s.length H vs xs → Kon B X.K (RV X.K) (g vs s) m s H Q → r xs H Q) :
    SE B X (.Call (.Name x p) (e :: es) [] pos) (fun σ s => (rs σ s).bind fun vs s => g vs s) :=
  (pe_callTy hc hg hm hv ha hn hdb (star_plain (plain_cons hp).1) (star_any (plain_cons hp).2)).imp fun τ H Q ⟨m, s, σ, st, k⟩ =>
    TAi.bind (f := fun σ vs s => g vs s) st k fun vs s1 m1 H1 xs g1 st1 rvs k1 => h m1 s1 H1 vs xs Q st1.mt rvs k1
theorem rv1 {K : PySem.W.Frag} {m : Mp} {n : Nat} {H : Hp} {v : PV} {xs : List V} (r : RVs K m n H [v] xs) : ∃ x, xs = [x] ∧ RV K m n H v x := by
  obtain ⟨x, q, rfl, h1, h2⟩ := r
  exact ⟨x, by rw [show q = [] from h2], h1⟩
theorem rv2 {K : PySem.W.Frag} {m : Mp} {n : Nat} {H : Hp} {v w : PV} {xs : List V} (r : RVs K m n H [v, w] xs) : ∃ x y, xs = [x, y] ∧ RV K m n H v x ∧ RV K m n H w y := by
  obtain ⟨x, q, rfl, h1, h2⟩ := r
  obtain ⟨y, rfl, h3⟩ := rv1 h2
  exact ⟨x, y, rfl, h1, h3⟩
theorem getInts_ok {K : PySem.W.Frag} {m : Mp} {n : Nat} {H : Hp} : ∀ {xs : List PV} {is : List Int} {vs : List V}, getInts xs = some is → RVs K m n H xs vs → vs = is.map V.int
  | [], is, vs, e, r => by cases e; exact r
  | .int i :: xs, is, vs, e, r => by
    simp only [getInts] at e
    obtain ⟨js, e1, rfl⟩ := Option.map_eq_some_iff.mp e
    obtain ⟨x, q, rfl, h1, h2⟩ := r
    cases h1
    rw [getInts_ok e1 h2]; rfl
  | .non :: xs, is, vs, e, r => by cases e
  | .bl _ :: xs, is, vs, e, r => by cases e
  | .str _ :: xs, is, vs, e, r => by cases e
  | .tup _ :: xs, is, vs, e, r => by cases e
  | .rol _ :: xs, is, vs, e, r => by cases e
  | .ref _ :: xs, is, vs, e, r => by cases e
theorem getBools_ok {K : PySem.W.Frag} {m : Mp} {n : Nat} {H : Hp} : ∀ {xs : List PV} {is : List Bool} {vs : List V}, getBools xs = some is → RVs K m n H xs vs → vs = is.map V.bl
  | [], is, vs, e, r => by cases e; exact r
  | .bl i :: xs, is, vs, e, r => by
    simp only [getBools] at e
    obtain ⟨js, e1, rfl⟩ := Option.map_eq_some_iff.mp e
    obtain ⟨x, q, rfl, h1, h2⟩ := r
    cases h1
    rw [getBools_ok e1 h2]; rfl
  | .non :: xs, is, vs, e, r => by cases e
  | .int _ :: xs, is, vs, e, r => by cases e
  | .str _ :: xs, is, vs, e, r => by cases e
  | .tup _ :: xs, is, vs, e, r => by cases e
  | .rol _ :: xs, is, vs, e, r => by cases e
  | .ref _ :: xs, is, vs, e, r => by cases e
theorem getStrs_ok {K : PySem.W.Frag} {m : Mp} {n : Nat} {H : Hp} : ∀ {xs : List PV} {is : List Str} {vs : List V}, getStrs xs = some is → RVs K m n H xs vs → vs = is.map V.str
  | [], is, vs, e, r => by cases e; exact r
  | .str i :: xs, is, vs, e, r => by
    simp only [getStrs] at e
    obtain ⟨js, e1, rfl⟩ := Option.map_eq_some_iff.mp e
    obtain ⟨x, q, rfl, h1, h2⟩ := r
    cases h1
    rw [getStrs_ok e1 h2]; rfl
  | .non :: xs, is, vs, e, r => by cases e
  | .int _ :: xs, is, vs, e, r => by cases e
  | .bl _ :: xs, is, vs, e, r => by cases e
  | .tup _ :: xs, is, vs, e, r => by cases e
  | .rol _ :: xs, is, vs, e, r => by cases e
  | .ref _ :: xs, is, vs, e, r => by cases e

theorem one_eq {vs : List PV} {v : PV} (h : one vs = some v) : vs = [v] := by
  unfold one at h
  split at h
  · cases h; rfl
  · cases h
theorem two_eq {vs : List PV} {p : PV × PV} (h : two vs = some p) : vs = [p.1, p.2] := by
  unfold two at h
  split at h
  · cases h; rfl
  · cases h
theorem asI_eq {v : PV} {i : Int} (h : asI v = some i) : v = .int i := by
  unfold asI at h
  split at h
  · cases h; rfl
  · cases h
/-- the reading of a built-in -/
def rLen (K : PySem.W.Frag) : List V → Hp → VK → Prop := fun xs H Q => ∃ x n, xs = [x] ∧ LenV K x H n ∧ Q (.int n) H
theorem kon_len {m : Mp} {s : SH} {H : Hp} {vs : List PV} {xs : List V} {Q : VK} (M : Match B X.K m s H) (r : RVs X.K m s.length H vs xs) (k : Kon B X.K (RV X.K) (effO z (prim s .len vs) s 31) m s H Q) : rLen X.K xs H Q := by
  obtain ⟨a, f0, kk⟩ := Kon.effO k
  obtain ⟨v, e1, e⟩ := Option.bind_eq_some_iff.mp f0
  have := one_eq e1
  subst this
  obtain ⟨x, rfl, rx⟩ := rv1 r
  unfold pLen1 at e
  split at e
  · rename_i z
    split at e
    · rename_i hz
      cases e; cases rx
      exact ⟨.str z, z.length, rfl, ⟨hz, rfl⟩, Kon.val M kk rfl⟩
    · cases e
  · obtain ⟨ys, e1, rfl⟩ := Option.map_eq_some_iff.mp e
    obtain ⟨p, us, rfl, hp, rr⟩ := seqOf_ok M e1 rx
    refine ⟨.ref p, us.length, rfl, ?_, ?_⟩
    · rcases hp with hp | hp
      · exact .inl ⟨us, hp, rfl⟩
      · exact .inr ⟨us, hp, rfl⟩
    · rw [rr.length]; exact Kon.val M kk rfl
def rAbs : List V → Hp → VK → Prop := fun xs H Q => ∃ i, xs = [.int i] ∧ Q (.int (if i < 0 then -i else i)) H
theorem kon_abs {m : Mp} {s : SH} {H : Hp} {vs : List PV} {xs : List V} {Q : VK} (M : Match B X.K m s H) (r : RVs X.K m s.length H vs xs) (k : Kon B X.K (RV X.K) (effO z (prim s .abs vs) s 31) m s H Q) : rAbs xs H Q := by
  obtain ⟨a, f0, kk⟩ := Kon.effO k
  obtain ⟨v, e1, e⟩ := Option.bind_eq_some_iff.mp f0
  obtain ⟨i, e2, rfl⟩ := Option.map_eq_some_iff.mp e
  have := one_eq e1; subst this
  have := asI_eq e2; subst this
  obtain ⟨x, rfl, rx⟩ := rv1 r
  cases rx
  exact ⟨i, rfl, Kon.val M kk rfl⟩
def rInt : List V → Hp → VK → Prop := fun xs H Q => (∃ i, xs = [.int i] ∧ Q (.int i) H) ∨ ∃ k, xs = [.bl k] ∧ Q (.int (if k then 1 else 0)) H
def rStr : List V → Hp → VK → Prop := fun xs H Q => ∃ i, xs = [.int i] ∧ i.natAbs.log2 < 1920 ∧ Q (.str (toString i : String)) H
theorem kon_str {m : Mp} {s : SH} {H : Hp} {vs : List PV} {xs : List V} {Q : VK} (M : Match B X.K m s H) (r : RVs X.K m s.length H vs xs) (k : Kon B X.K (RV X.K) (effO z (prim s .str vs) s 31) m s H Q) : rStr xs H Q := by
  obtain ⟨a, f0, kk⟩ := Kon.effO k
  obtain ⟨v, e1, e⟩ := Option.bind_eq_some_iff.mp f0
  obtain ⟨i, e2, e⟩ := Option.bind_eq_some_iff.mp e
  obtain ⟨z, e3, rfl⟩ := Option.map_eq_some_iff.mp e
  have := one_eq e1; subst this
  have := asI_eq e2; subst this
  obtain ⟨x, rfl, rx⟩ := rv1 r
  cases rx
  unfold strI at e3
  split at e3
  · rename_i h; cases e3; exact ⟨i, rfl, h, Kon.val M kk rfl⟩
  · cases e3
def rMM (f : Int → Int → Int) : List V → Hp → VK → Prop := fun xs H Q => ∃ i j, xs = [.int i, .int j] ∧ Q (.int (f i j)) H
theorem kon_mm {f : Int → Int → Int} {m : Mp} {s : SH} {H : Hp} {vs : List PV} {xs : List V} {Q : VK} (M : Match B X.K m s H) (r : RVs X.K m s.length H vs xs) (k : Kon B X.K (RV X.K) (effO z (pMM vs f) s 31) m s H Q) : rMM f xs H Q := by
  obtain ⟨a, f0, kk⟩ := Kon.effO k
  obtain ⟨p, e1, e⟩ := Option.bind_eq_some_iff.mp f0
  obtain ⟨i, e2, e⟩ := Option.bind_eq_some_iff.mp e
  obtain ⟨j, e3, rfl⟩ := Option.map_eq_some_iff.mp e
  have := two_eq e1; subst this
  obtain ⟨x, y, rfl, rx, ry⟩ := rv2 r
  rw [asI_eq e2] at rx
  rw [asI_eq e3] at ry
  cases rx; cases ry
  exact ⟨i, j, rfl, Kon.val M kk rfl⟩
theorem kon_all {m : Mp} {s : SH} {H : Hp} {vs : List PV} {xs : List V} {Q : VK} (M : Match B X.K m s H) (r : RVs X.K m s.length H vs xs) (k : Kon B X.K (RV X.K) (effO z (prim s .all vs) s 31) m s H Q) : rAll X.K xs H Q := by
  obtain ⟨a, f0, kk⟩ := Kon.effO k
  obtain ⟨v, e0, e⟩ := Option.bind_eq_some_iff.mp f0
  have := one_eq e0; subst this
  obtain ⟨x, rfl, rx⟩ := rv1 r
  obtain ⟨ys, e1, e2⟩ := Option.bind_eq_some_iff.mp e
  obtain ⟨is, e3, rfl⟩ := Option.map_eq_some_iff.mp e2
  obtain ⟨p, us, rfl, hp, rr⟩ := lstOf_ok M e1 rx
  have := getBools_ok e3 rr
  subst this
  exact ⟨p, is, rfl, hp, Kon.val M kk rfl⟩
theorem kon_any {m : Mp} {s : SH} {H : Hp} {vs : List PV} {xs : List V} {Q : VK} (M : Match B X.K m s H) (r : RVs X.K m s.length H vs xs) (k : Kon B X.K (RV X.K) (effO z (prim s .any vs) s 31) m s H Q) : rAny X.K xs H Q := by
  obtain ⟨a, f0, kk⟩ := Kon.effO k
  obtain ⟨v, e0, e⟩ := Option.bind_eq_some_iff.mp f0
  have := one_eq e0; subst this
  obtain ⟨x, rfl, rx⟩ := rv1 r
  obtain ⟨ys, e1, e2⟩ := Option.bind_eq_some_iff.mp e
  obtain ⟨is, e3, rfl⟩ := Option.map_eq_some_iff.mp e2
  obtain ⟨p, us, rfl, hp, rr⟩ := lstOf_ok M e1 rx
  have := getBools_ok e3 rr
  subst this
  exact ⟨p, is, rfl, hp, Kon.val M kk rfl⟩
def rTuple (K : PySem.W.Frag) : List V → Hp → VK → Prop := fun xs H Q => ∃ p ys, xs = [.ref p] ∧ ((SqL K H p ys ∧ ∀ l, H l = none → Q (.ref l) (upd H l (.tup ys))) ∨ (SqT K H p ys ∧ Q (.ref p) H))
theorem kon_tuple {m : Mp} {s : SH} {H : Hp} {vs : List PV} {xs : List V} {Q : VK} (M : Match B X.K m s H) (r : RVs X.K m s.length H vs xs) (k : Kon B X.K (RV X.K) (effO z (prim s .tuple vs) s 31) m s H Q) : rTuple X.K xs H Q := by
  obtain ⟨a, f0, kk⟩ := Kon.effO k
  obtain ⟨v, e0, e⟩ := Option.bind_eq_some_iff.mp f0
  have := one_eq e0; subst this
  obtain ⟨x, rfl, rx⟩ := rv1 r
  obtain ⟨ys, e1, rfl⟩ := Option.map_eq_some_iff.mp e
  cases v with
  | tup zs =>
    cases e1
    obtain ⟨p, us, rfl, hp, rr⟩ := rx
    exact ⟨p, us, rfl, .inr ⟨hp.sq, Kon.val M kk ⟨p, us, rfl, hp, rr⟩⟩⟩
  | scr zs =>
    obtain ⟨p, us, rfl, hp, rr⟩ := lstOf_ok M (v := .scr zs) e1 rx
    exact ⟨p, us, rfl, .inl ⟨hp, fun l hl => Kon.tup M kk rr hl⟩⟩
  | rol zs =>
    obtain ⟨p, us, rfl, hp, rr⟩ := lstOf_ok M (v := .rol zs) e1 rx
    exact ⟨p, us, rfl, .inl ⟨hp, fun l hl => Kon.tup M kk rr hl⟩⟩
  | ref i =>
    obtain ⟨p, us, rfl, hp, rr⟩ := lstOf_ok M (v := .ref i) (by simpa only [lstOf, seqOf] using e1) rx
    exact ⟨p, us, rfl, .inl ⟨hp, fun l hl => Kon.tup M kk rr hl⟩⟩
  | _ => cases e1
def rList (K : PySem.W.Frag) : List V → Hp → VK → Prop := fun xs H Q => ∃ p ys, xs = [.ref p] ∧ (SqL K H p ys ∨ SqT K H p ys) ∧ ∀ l, H l = none → Q (.ref l) (upd H l (.lst ys))
theorem kon_list {m : Mp} {s : SH} {H : Hp} {vs : List PV} {xs : List V} {Q : VK} (M : Match B X.K m s H) (r : RVs X.K m s.length H vs xs) (k : Kon B X.K (RV X.K) (effO z (prim s .list vs) s 31) m s H Q) : rList X.K xs H Q := by
  obtain ⟨a, f0, kk⟩ := Kon.effO k
  obtain ⟨v, e0, e⟩ := Option.bind_eq_some_iff.mp f0
  have := one_eq e0; subst this
  obtain ⟨x, rfl, rx⟩ := rv1 r
  obtain ⟨ys, e1, rfl⟩ := Option.map_eq_some_iff.mp e
  obtain ⟨p, us, rfl, hp, rr⟩ := seqOf_ok M e1 rx
  exact ⟨p, us, rfl, hp, fun l hl => Kon.lst M kk rr hl⟩
end
end CS
end CSPrim2_

section CSExp_
set_option maxRecDepth 100000
set_option maxHeartbeats 1000000
namespace CS
open PySem L2
variable {z : Bool}

section
variable {B : Nm} {X : Cx} {e a b c o : Expr} {es : List Expr} {pos apos p p2 : Pos} {ra rb rc ro : Sl → SH → R PV} {rs : Sl → SH → R (List PV)} {tA tB tC : Sl → SH → R Bool} {x : Str}

/-! ### -x, subscripts, slices -/
theorem kon_neg {m : Mp} {s : SH} {H : Hp} {v : PV} {x : V} {Q : VK} (M : Match B X.K m s H) (r : RV X.K m s.length H v x) (k : Kon B X.K (RV X.K) (effO z (prim s .neg [v]) s 31) m s H Q) : rU (fun i => .int (-i)) x H Q := by
  obtain ⟨a, f0, kk⟩ := Kon.effO k
  simp only [prim, pNeg, one, Option.bind_some] at f0
  obtain ⟨i, e2, rfl⟩ := Option.map_eq_some_iff.mp f0
  have := asI_eq e2; subst this
  cases r
  exact ⟨i, rfl, Kon.val M kk rfl⟩
theorem se_neg (ha : SE B X a ra) : SE B X (.UnaryOp .USub a pos) (fun σ s => ((ra σ s).bind fun x s => (R.ok [] s).bind fun xs s => R.ok (x :: xs) s).bind fun vs s => effO z (prim s .neg vs) s 31) := by
  have := se_un (B := B) (pos := pos) (fun v s => effO z (prim s .neg [v]) s 31) ha un_neg fun m s H v x Q M r k => kon_neg M r k
  refine this.imp fun τ H Q h => ?_
  obtain ⟨m, s, σ, st, k⟩ := h
  refine ⟨m, s, σ, st, ?_⟩
  cases e : ra σ s with
  | bad w => simp only [e, R.bind] at k; exact (Kon.bad k).elim
  | ok v s1 => simp only [e, R.bind] at k ⊢; exact k
theorem ixN_eq (n : Nat) (i : Int) : CS.ixN n i = L2.ixN n i := rfl
theorem kon_ix {m : Mp} {s : SH} {H : Hp} {v w : PV} {x y : V} {Q : VK} (M : Match B X.K m s H) (rx : RV X.K m s.length H v x) (ry : RV X.K m s.length H w y)
    (k : Kon B X.K (RV X.K) (effO z (prim s .ix [v, w]) s 31) m s H Q) : rIx X.K x y H Q := by
  obtain ⟨a, f0, kk⟩ := Kon.effO k
  simp only [prim, pIx, two, Option.bind_some] at f0
  obtain ⟨i, e2, f2⟩ := Option.bind_eq_some_iff.mp f0
  have := asI_eq e2; subst this
  cases ry
  unfold pIx1 at f2
  split at f2
  · rename_i z
    split at f2
    · rename_i hz
      obtain ⟨c, e3, rfl⟩ := Option.map_eq_some_iff.mp f2
      cases rx
      refine .inr (.inr ⟨z, i, c, rfl, rfl, hz, ?_, Kon.val M kk rfl⟩)
      unfold atI
      rw [← ixN_eq]
      have hl : z.cps.toList.length = z.length := Array.length_toList
      rw [hl]; exact e3
    · cases f2
  · obtain ⟨xs, e3, f3⟩ := Option.bind_eq_some_iff.mp f2
    obtain ⟨u, e4, rfl⟩ := Option.map_eq_some_iff.mp f3
    obtain ⟨j, e5, e6⟩ := Option.bind_eq_some_iff.mp e4
    obtain ⟨p, us, rfl, hp, rr⟩ := seqOf_ok M e3 rx
    obtain ⟨z, e7, rz⟩ := rr.get e6
    have at_ : atI us i = some z := by
      unfold atI
      rw [← ixN_eq, rr.length, e5]; exact e7
    rcases hp with hp | hp
    · exact .inl ⟨p, us, i, z, rfl, rfl, hp, at_, Kon.val M kk rz⟩
    · exact .inr (.inl ⟨p, us, i, z, rfl, rfl, hp, at_, Kon.val M kk rz⟩)
theorem se_ix (ha : SE B X a ra) (hb : SE B X b rb) (hs : PlainIx b) :
    SE B X (.Subscript a b pos) (fun σ s => ((ra σ s).bind fun x s => ((rb σ s).bind fun y s => (R.ok [] s).bind fun xs s => R.ok (y :: xs) s).bind fun xs s => R.ok (x :: xs) s).bind fun vs s => effO z (prim s .ix vs) s 31) := by
  have : SE B X (.Subscript a b pos) (fun σ s => (ra σ s).bind fun x s => (rb σ s).bind fun y s => effO z (prim s .ix [x, y]) s 31) :=
    (pe_ix ix_seq ha hb hs).imp fun τ H Q ⟨m, s, σ, st, k⟩ =>
      TEi.bind (f := fun σ x s => (rb σ s).bind fun y s => effO z (prim s .ix [x, y]) s 31) st k fun v s1 m1 H1 x g1 st1 rv k1 =>
        TEi.bind (f := fun σ y s => effO z (prim s .ix [v, y]) s 31) st1 k1 fun w s2 m2 H2 y g2 st2 rw k2 => kon_ix st2.mt (RV.le (g2.le st1.mt) _ _ rv) rw k2
  refine this.imp fun τ H Q h => ?_
  obtain ⟨m, s, σ, st, k⟩ := h
  refine ⟨m, s, σ, st, ?_⟩
  cases e : ra σ s with
  | bad w => simp only [e, R.bind] at k; exact (Kon.bad k).elim
  | ok v s1 =>
    simp only [e, R.bind] at k ⊢
    cases e2 : rb σ s1 with
    | bad w => simp only [e2] at k; exact (Kon.bad k).elim
    | ok w s2 => simp only [e2] at k ⊢; exact k
theorem RVs.reverse {K : PySem.W.Frag} {m : Mp} {n : Nat} {H : Hp} : ∀ {xs : List PV} {vs : List V}, RVs K m n H xs vs → RVs K m n H xs.reverse vs.reverse
  | [], _, h => by rw [show _ = [] from h]; rfl
  | x :: xs, _, h => by
    obtain ⟨v, r, rfl, h1, h2⟩ := h
    rw [List.reverse_cons, List.reverse_cons]
    exact RVs.append (RVs.reverse h2) (RVs.one h1)
/-- a part of a slice -/
def relO : Mp → Nat → Hp → Option Int → Option Int → Prop := fun _ _ _ a b => a = b
def TOi (B : Nm) (K : PySem.W.Frag) (r : Sl → SH → R (Option Int)) : TO := fun τ H Q => ∃ m s σ, StOk B K m s H σ τ ∧ Kon B K relO (r σ s) m s H Q
theorem _root_.L2.PO.imp {X : Cx} {e : Option Expr} {t u : TO} (h : PO X e t) (i : ∀ σ H Q, u σ H Q → t σ H Q) : PO X e u := ⟨fun pins s σ H Q I q => h.run pins s σ H Q I (i σ H Q q)⟩
theorem TOi.bind {K : PySem.W.Frag} {m : Mp} {s : SH} {H : Hp} {σ : Sl} {τ : St} {γ δ : Type} {rel' : Mp → Nat → Hp → γ → δ → Prop} {r : Sl → SH → R (Option Int)} {f : Sl → Option Int → SH → R γ} {Q : δ → Hp → Prop} {R' : Option Int → Hp → Prop} (st : StOk B K m s H σ τ) (h : Kon B K rel' ((r σ s).bind (f σ)) m s H Q)
    (k : ∀ b s1 m1 H1, Go B K m s H m1 s1 H1 → StOk B K m1 s1 H1 σ τ → Kon B K rel' (f σ b s1) m1 s1 H1 Q → R' b H1) : TOi B K r τ H R' := by
  obtain ⟨v, s1, e, kk⟩ := h.bind st.mt
  exact ⟨m, s, σ, st, v, s1, e, fun m1 H1 x g rv => by cases rv; exact k v s1 m1 H1 g (st.go g) (kk m1 H1 g)⟩
theorem Kon.valO {K : PySem.W.Frag} {m : Mp} {s : SH} {H : Hp} {b : Option Int} {Q : Option Int → Hp → Prop} (M : Match B K m s H) (h : Kon B K relO (.ok b s) m s H Q) : Q b H := by
  obtain ⟨w, s1, e, k⟩ := h
  cases e
  exact k m H b (Go.refl M) rfl
theorem so_none : PO X none (TOi B X.K (fun _ s => .ok none s)) := po_none.imp fun τ H Q ⟨m, s, σ, st, k⟩ => Kon.valO st.mt k
theorem so_some (h : SE B X e ra) : PO X (some e) (TOi B X.K (fun σ s => (ra σ s).bind fun x s => liftO ((asI x).map Option.some) s 37)) := (po_some h).imp fun τ H Q ⟨m, s, σ, st, k⟩ =>
  TEi.bind (rel' := relO) (f := fun σ x s => liftO ((asI x).map Option.some) s 37) st k fun v s1 m1 H1 x g1 st1 rv k1 => by
    cases e : asI v with
    | none => rw [e] at k1; exact (Kon.bad k1).elim
    | some i =>
      rw [e] at k1
      have := asI_eq e; subst this
      cases rv
      exact ⟨i, rfl, Kon.valO st1.mt k1⟩
theorem sIx_eq (n d : Nat) (o : Option Int) : CS.sIx n d o = HT.sIx n d o := by cases o <;> rfl
theorem RVs.cut {K : PySem.W.Frag} {m : Mp} {n : Nat} {H : Hp} {xs : List PV} {vs : List V} (r : RVs K m n H xs vs) (l u : Option Int) : RVs K m n H (cutL xs l u) (cutV vs l u) := by
  unfold cutL cutV
  rw [r.length, ← sIx_eq, ← sIx_eq]
  exact RVs.take _ (RVs.drop _ r)
theorem cut_whole {α : Type} {xs : List α} {l u : Option Int} (h : HT.sIx xs.length 0 l = 0 ∧ HT.sIx xs.length xs.length u = xs.length) : cutL xs l u = xs := by
  unfold cutL
  rw [sIx_eq, sIx_eq, h.1, h.2]; simp
def rSlU (K : PySem.W.Frag) : V → Option Int → Option Int → Hp → VK → Prop := fun x l u H Q => rSlL K x l u H Q ∨ (rSlA K x l u H Q ∨ rSlS x l u H Q)
theorem sl_U : SlR X (rSlU X.K) := SlR.or sl_list (SlR.or sl_tupA sl_str)
theorem kon_slice {m : Mp} {s : SH} {H : Hp} {v : PV} {x : V} {l u : Option Int} {Q : VK} (M : Match B X.K m s H) (rx : RV X.K m s.length H v x) (k : Kon B X.K (RV X.K) (sliceV z v l u s) m s H Q) : rSlU X.K x l u H Q := by
  unfold sliceV at k
  split at k
  · rename_i t
    split at k
    · rename_i ht
      cases rx
      refine .inr (.inr ⟨t, rfl, ht, Kon.val M k ?_⟩)
      show V.str _ = V.str _
      unfold cutS cutL
      have hl : t.cps.toList.length = t.length := Array.length_toList
      rw [hl, sIx_eq, sIx_eq]
    · exact (Kon.bad k).elim
  · rename_i xs
    obtain ⟨p, vs, rfl, hp, rr⟩ := rx
    refine .inr (.inl ⟨p, vs, rfl, hp.sq, fun hw => ?_, fun _ q hq => Kon.tup M k (rr.cut l u) hq⟩)
    rw [rr.length] at hw
    rw [cut_whole hw] at k
    exact Kon.val M k ⟨p, vs, rfl, hp, rr⟩
  · obtain ⟨xs, e, k2⟩ := Kon.liftO k
    obtain ⟨p, vs, rfl, hp, rr⟩ := lstOf_ok M e rx
    exact .inl ⟨p, vs, rfl, hp, fun q hq => Kon.lst M k2 (rr.cut l u) hq⟩
theorem se_slice {lo hi : Option Expr} {rl rh : Sl → SH → R (Option Int)} (ha : SE B X a ra) (hl : PO X lo (TOi B X.K rl)) (hh : PO X hi (TOi B X.K rh)) :
    SE B X (.Subscript a (.Slice lo hi none p2) pos) (fun σ s => (ra σ s).bind fun x s => (rl σ s).bind fun l s => (rh σ s).bind fun u s => sliceV z x l u s) :=
  (pe_slice sl_U ha hl hh).imp fun τ H Q ⟨m, s, σ, st, k⟩ =>
    TEi.bind (f := fun σ x s => (rl σ s).bind fun l s => (rh σ s).bind fun u s => sliceV z x l u s) st k fun v s1 m1 H1 x g1 st1 rv k1 =>
      TOi.bind (f := fun σ l s => (rh σ s).bind fun u s => sliceV z v l u s) st1 k1 fun l s2 m2 H2 g2 st2 k2 =>
        TOi.bind (f := fun σ u s => sliceV z v l u s) st2 k2 fun u s3 m3 H3 g3 st3 k3 => kon_slice st3.mt (RV.le ((g2.trans st1.mt g3).le st1.mt) _ _ rv) k3

/-! ### displays with stars; from behind -/
theorem sa_star {rs : Sl → SH → R (List PV)} (ha : SE B X e ra) (hr : SA B X es rs) :
    SA B X (.Starred e p :: es) (fun σ s => (ra σ s).bind fun x s => (liftO (seqOf s x) s 91).bind fun ys s => (rs σ s).bind fun zs s => .ok (ys ++ zs) s) :=
  (StX.pa_star ha hr).imp fun τ H Q ⟨m, s, σ, st, k⟩ =>
    TEi.bind (f := fun σ x s => (liftO (seqOf s x) s 91).bind fun ys s => (rs σ s).bind fun zs s => .ok (ys ++ zs) s) st k fun v s1 m1 H1 x g1 st1 rv k1 => by
      obtain ⟨ys, e1, k2⟩ := Kon.liftO k1
      obtain ⟨q, us, rfl, hq, rr⟩ := seqOf_ok st1.mt e1 rv
      refine ⟨q, us, rfl, hq.symm, ?_⟩
      exact TAi.bind (f := fun σ zs s => .ok (ys ++ zs) s) st1 k2 fun vs s2 m2 H2 xs g2 st2 rvs k3 =>
        Kon.valA st2.mt k3 (RVs.append (RVs.le (g2.le st1.mt) _ _ rr) rvs)
theorem se_dispS {z : Bool} {rs : Sl → SH → R (List PV)} (h : SA B X es rs) : SE B X (.List es pos) (fun σ s => (rs σ s).bind fun vs s => effO z (pLst vs) s 31) := se_lst h
/-! ### and, or, not, if -/
variable {rest : List Expr}
theorem se_one {op : BoolOp} (h : SE B X a ra) : SE B X (.BoolOp op [a] pos) ra := pe_one h
theorem se_and (ha : SE B X a ra) (hb : SE B X (.BoolOp .And (b :: rest) pos) rb) :
    SE B X (.BoolOp .And (a :: b :: rest) pos) (fun σ s => (ra σ s).bind fun x s => (liftO (tru s x) s 34).bind fun k s => if k then rb σ s else .ok x s) :=
  (pe_andT ha hb).imp fun τ H Q ⟨m, s, σ, st, k⟩ =>
    TEi.bind (f := fun σ x s => (liftO (tru s x) s 34).bind fun k s => if k then rb σ s else .ok x s) st k fun v s1 m1 H1 x g1 st1 rv k1 => by
      obtain ⟨b, e, k2⟩ := Kon.liftO k1
      refine ⟨b, tru_of st1.mt e rv, ?_⟩
      cases b with
      | true => exact ⟨m1, s1, σ, st1, k2⟩
      | false => exact Kon.val st1.mt k2 rv
theorem se_or (ha : SE B X a ra) (hb : SE B X (.BoolOp .Or (b :: rest) pos) rb) :
    SE B X (.BoolOp .Or (a :: b :: rest) pos) (fun σ s => (ra σ s).bind fun x s => (liftO (tru s x) s 35).bind fun k s => if k then .ok x s else rb σ s) :=
  (pe_orT ha hb).imp fun τ H Q ⟨m, s, σ, st, k⟩ =>
    TEi.bind (f := fun σ x s => (liftO (tru s x) s 35).bind fun k s => if k then .ok x s else rb σ s) st k fun v s1 m1 H1 x g1 st1 rv k1 => by
      obtain ⟨b, e, k2⟩ := Kon.liftO k1
      refine ⟨b, tru_of st1.mt e rv, ?_⟩
      cases b with
      | true => exact Kon.val st1.mt k2 rv
      | false => exact ⟨m1, s1, σ, st1, k2⟩
theorem se_not (ha : SE B X a ra) : SE B X (.UnaryOp .Not a pos) (fun σ s => (ra σ s).bind fun x s => (liftO (tru s x) s 36).bind fun k s => .ok (.bl (!k)) s) :=
  (pe_notT ha).imp fun τ H Q ⟨m, s, σ, st, k⟩ =>
    TEi.bind (f := fun σ x s => (liftO (tru s x) s 36).bind fun k s => R.ok (PV.bl (!k)) s) st k fun v s1 m1 H1 x g1 st1 rv k1 => by
      obtain ⟨b, e, k2⟩ := Kon.liftO k1
      exact ⟨b, tru_of st1.mt e rv, Kon.val st1.mt k2 rfl⟩
theorem se_ite (hc : SB B X c tA) (ha : SE B X a ra) (hb : SE B X b rb) : SE B X (.IfExp c a b pos) (fun σ s => (tA σ s).bind fun k s => if k then ra σ s else rb σ s) :=
  (pe_ifExp hc ha hb).imp fun τ H Q ⟨m, s, σ, st, k⟩ =>
    TTi.bind (f := fun σ k s => if k then ra σ s else rb σ s) st k fun v s1 m1 H1 g1 st1 k1 => by
      cases v with
      | true => exact ⟨m1, s1, σ, st1, k1⟩
      | false => exact ⟨m1, s1, σ, st1, k1⟩
theorem sb_ite (hc : SB B X c tA) (ha : SB B X a tB) (hb : SB B X b tC) : SB B X (.IfExp c a b pos) (fun σ s => (tA σ s).bind fun k s => if k then tB σ s else tC σ s) := by
  refine ⟨fun pins s0 τ H Q I h => ?_⟩
  obtain ⟨m, s, σ, st, k⟩ := h
  show wpAny _ _ (do if ← isTrue c X.env (eval c X.env) then isTrue a X.env (eval a X.env) else isTrue b X.env (eval b X.env)) _ _ _
  refine wpAny_bind (thn (hc.run pins s0 τ H (fun d H1 => if d = true then TTi B X.K tB τ H1 Q else TTi B X.K tC τ H1 Q) I ?_) fun d s1 ⟨H1, I1, q1⟩ => ?_)
  · exact TTi.bind (rel' := relB) (f := fun σ k s => if k then tB σ s else tC σ s) st k fun v s1 m1 H1 g1 st1 k1 => by
      cases v with
      | true => exact ⟨m1, s1, σ, st1, k1⟩
      | false => exact ⟨m1, s1, σ, st1, k1⟩
  · cases d with
    | true => exact ha.run pins s1 τ H1 Q I1 q1
    | false => exact hb.run pins s1 τ H1 Q I1 q1
/-- tests whatever their whole is -/
abbrev SW (B : Nm) (X : Cx) (e : Expr) (r : Sl → SH → R Bool) : Prop := PW X e (TTi B X.K r)
theorem _root_.L2.PW.imp {X : Cx} {e : Expr} {t u : TT} (h : PW X e t) (i : ∀ σ H Q, u σ H Q → t σ H Q) : PW X e u := ⟨fun wh pins s σ H Q I q => h.run wh pins s σ H Q I (i σ H Q q)⟩
theorem sw_one {op : BoolOp} (h : SB B X a tA) : SW B X (.BoolOp op [a] pos) tA := by
  cases op with
  | And => exact pw_and1 h
  | Or => exact pw_or1 h
theorem sw_and (ha : SB B X a tA) (hb : SW B X (.BoolOp .And (b :: rest) pos) tB) : SW B X (.BoolOp .And (a :: b :: rest) pos) (fun σ s => (tA σ s).bind fun k s => if k then tB σ s else .ok false s) :=
  (pw_and ha hb).imp fun τ H Q ⟨m, s, σ, st, k⟩ =>
    TTi.bind (rel' := relB) (f := fun σ k s => if k then tB σ s else .ok false s) st k fun v s1 m1 H1 g1 st1 k1 => by
      cases v with
      | true => exact ⟨m1, s1, σ, st1, k1⟩
      | false => exact Kon.valB st1.mt k1
theorem sw_or (ha : SB B X a tA) (hb : SW B X (.BoolOp .Or (b :: rest) pos) tB) : SW B X (.BoolOp .Or (a :: b :: rest) pos) (fun σ s => (tA σ s).bind fun k s => if k then .ok true s else tB σ s) :=
  (pw_or ha hb).imp fun τ H Q ⟨m, s, σ, st, k⟩ =>
    TTi.bind (rel' := relB) (f := fun σ k s => if k then .ok true s else tB σ s) st k fun v s1 m1 H1 g1 st1 k1 => by
      cases v with
      | true => exact Kon.valB st1.mt k1
      | false => exact ⟨m1, s1, σ, st1, k1⟩
/-- a < b < c -/
theorem se_chain {op op' : CmpOp} {oo pp : CmpO} (hu : X.A.units + 64 < cLine) (h1 : cmpOf op = some oo) (h2 : cmpOf op' = some pp) (ha : SE B X a ra) (hb : SE B X b rb) (hc : SE B X c rc) (hm : lastMarks [op, op'] [b, c] = false) :
    PEC B X (.Compare a [op, op'] [b, c] pos) (fun σ s => (ra σ s).bind fun x s => (rb σ s).bind fun y s => (liftO (cmpP s oo x y) s 32).bind fun k s => if k then (rc σ s).bind fun z s => liftO ((cmpP s pp y z).map .bl) s 33 else .ok (.bl false) s) :=
  pec (pe_chain (op_cmpR hu op) (op_cmpR hu op') ha hb hc hm) (pt_chain (op_cmpR hu op) (op_cmpR hu op') ha hb hc hm) fun τ H Q ⟨m, s, σ, st, k⟩ =>
    TEi.bind (f := fun σ x s => (rb σ s).bind fun y s => (liftO (cmpP s oo x y) s 32).bind fun k s => if k then (rc σ s).bind fun z s => liftO ((cmpP s pp y z).map PV.bl) s 33 else R.ok (PV.bl false) s) st k fun v s1 m1 H1 x g1 st1 rv k1 =>
      TEi.bind (f := fun σ y s => (liftO (cmpP s oo v y) s 32).bind fun k s => if k then (rc σ s).bind fun z s => liftO ((cmpP s pp y z).map PV.bl) s 33 else R.ok (PV.bl false) s) st1 k1 fun w s2 m2 H2 y g2 st2 rw k2 => by
        obtain ⟨d, e, k3⟩ := Kon.liftO k2
        refine kon_cmp h1 st2.mt (RV.le (g2.le st1.mt) _ _ rv) rw e ⟨d, rfl, ?_⟩
        cases d with
        | false => exact Kon.val st2.mt k3 rfl
        | true =>
          exact TEi.bind (f := fun σ z s => liftO ((cmpP s pp w z).map PV.bl) s 33) st2 k3 fun z s3 m3 H3 zz g3 st3 rz k4 => by
            obtain ⟨u, e2, k5⟩ := Kon.lift1 k4
            obtain ⟨d2, e3, rfl⟩ := Option.map_eq_some_iff.mp e2
            exact kon_cmp h2 st3.mt (RV.le (g3.le st2.mt) _ _ rw) rz e3 (Kon.val st3.mt k5 rfl)
end
end CS
end CSExp_

section CSExp2_
set_option maxRecDepth 100000
set_option maxHeartbeats 1000000
namespace CS
open PySem PySem.Spec PyProof.Rows L2
section
variable {prog : Program} {w : World} {A : Around} {E : Value → Shared → Prop} {s : Shared}
theorem slicePart_m1 {t : Tok} {Q : Option Int → Shared → Prop} (h : Q (some (-1)) s) : wpAny (model prog w) A (Builtin.Slice.slicePartIndex (.int (-1) t)) Q E s := HT.slicePart_ (IsPart.int (-1) t) h
theorem rev_places (n : Nat) : Builtin.Slice.slicePlaces ((n : Int) - 1) (-1) (-1) = n := by
  unfold Builtin.Slice.slicePlaces
  rw [if_neg (by decide)]
  by_cases h : (n : Int) - 1 > -1
  · rw [if_pos h]
    have : ((n : Int) - 1 - -1 - 1) / (- -1) + 1 = (n : Int) := by
      rw [show (- -1 : Int) = 1 from rfl, Int.ediv_one]; omega
    rw [this]; rfl
  · rw [if_neg h]
    omega
theorem sliceApplied_rev {sl : Addr} {vs : Value} {n : Nat} {Q : Int × Int × Nat → Shared → Prop} (hs : s.heap.IsSliceOf sl .none .none vs) (ps : IsPart vs (some (-1)))
    (h : Q (((n : Int) - 1), -1, n) s) : wpAny (model prog w) A (Builtin.Slice.sliceApplied (.ref sl) (pure (n : Int))) Q E s := by
  obtain ⟨os, hos, hcs, hds⟩ := id hs
  unfold Builtin.Slice.sliceApplied Builtin.Slice.sliceFields
  refine wpAny_bind (wpAny_bind (wpAny_field hos hds (x := .none) rfl (wpAny_bind (wpAny_field hos hds (x := .none) rfl (wpAny_bind (wpAny_field hos hds (x := vs) rfl (wpAny_pure ?_)))))))
  refine wpAny_bind (HT.slicePart_ ps ?_)
  show wpAny _ _ (if ((-1 : Int) == 0) = true then _ else _) _ _ s
  rw [if_neg (by decide)]
  refine wpAny_bind (HT.slicePart_ .none (wpAny_bind (HT.slicePart_ .none (wpAny_bind (wpAny_pure ?_)))))
  show wpAny _ _ (match Builtin.Slice.sliceAdjust none none (-1) (n : Int) with | (lo, hi) => pure (lo, (-1 : Int), Builtin.Slice.slicePlaces lo hi (-1))) _ _ s
  show wpAny _ _ (pure (((n : Int) - 1), (-1 : Int), Builtin.Slice.slicePlaces ((n : Int) - 1) (-1) (-1))) _ _ s
  rw [rev_places]
  exact wpAny_pure h
theorem fm_congr {α β : Type} {f g : α → Option β} : ∀ {l : List α}, (∀ x ∈ l, f x = g x) → l.filterMap f = l.filterMap g
  | [], _ => rfl
  | x :: l, h => by rw [List.filterMap_cons, List.filterMap_cons, h x (List.mem_cons_self ..), fm_congr fun y hy => h y (List.mem_cons_of_mem _ hy)]
theorem rev_pick (xs : Array Value) : ((List.range xs.size).filterMap fun (k : Nat) => xs[(((xs.size : Int) - 1) + (k : Int) * -1).toNat]?).toArray = xs.toList.reverse.toArray := by
  congr 1
  apply List.ext_getElem?
  intro i
  have e : (List.range xs.size).filterMap (fun (k : Nat) => xs[(((xs.size : Int) - 1) + (k : Int) * -1).toNat]?) = (List.range xs.size).map fun k => xs.toList.getD (xs.size - 1 - k) .none := by
    rw [← List.filterMap_eq_map]
    refine fm_congr fun k hk => ?_
    have hk' : k < xs.size := List.mem_range.mp hk
    have : (((xs.size : Int) - 1) + (k : Int) * -1).toNat = xs.size - 1 - k := by omega
    rw [this]
    have h2 : xs.size - 1 - k < xs.size := by omega
    simp [h2]
  rw [e]
  by_cases h : i < xs.size
  · rw [List.getElem?_reverse (by simpa using h)]
    simp [h]
    have h2 : xs.size - 1 - i < xs.size := by omega
    simp [h2]
  · simp [h]
theorem getItem_tuple_rev {t sl : Addr} {items : Array Value} {vs : Value} {Q : Value → Shared → Prop} (ht : IsTup s.heap t items) (hs : s.heap.IsSliceOf sl .none .none vs) (ps : IsPart vs (some (-1)))
    (h : Q (.ref s.heap.objs.size) { s with heap := s.heap.push { cls := .type "tuple", data := .seq items.toList.reverse.toArray } })
    (hsz : items.size ≤ sizeLine) : wpAny (model prog w) A (getItem (.ref t) (.ref sl)) Q E s := by
  have htake : sizeOk (.seq items.toList.reverse.toArray) := by
    show items.toList.reverse.toArray.size ≤ sizeLine
    rw [List.size_toArray, List.length_reverse, Array.length_toList]
    omega
  obtain ⟨os, hos, hcs, hds⟩ := id hs
  have hTs : s.TypeIs (.ref sl) "slice" := ⟨os, hos, hcs⟩
  unfold getItem
  try with_reducible refine wpAny_holding ?_
  first | refine wpAny_bind (wpAny_pure ?_) | skip
  refine wpAny_bind (wpAny_sequenceKey ht.typeIs (by decide) ?_)
  refine wpAny_bind (wpAny_callSpecial?_slot (name := Str.ofString "__getitem__") ht.typeIs PyProof.Rows.slot_tuple_getitem
    (wpAny_call_entry PyProof.Rows.slot_tuple_getitem ht.typeIs entry_tuple_getitem ?_ (args_tuple_getitem _ _)))
  show wpAny _ _ (Builtin.Tuple.tupleItemsOf (.ref t) >>= _) _ _ s
  refine wpAny_bind (tupleItemsOf_ ht ?_)
  refine wpAny_bind (wpAny_typeOf hTs ?_)
  rw [if_pos (by decide)]
  refine wpAny_bind (sliceApplied_rev hs ps ?_)
  have hno : ¬ ((((items.size : Int) - 1) == 0 && (-1 : Int) == 1 && items.size == items.size) = true) := by
    intro q
    rw [Bool.and_eq_true, Bool.and_eq_true] at q
    exact absurd (eq_of_beq q.1.2) (by decide)
  show wpAny _ _ (if (((items.size : Int) - 1) == 0 && (-1 : Int) == 1 && items.size == items.size) = true then _ else _) _ _ s
  rw [if_neg hno, rev_pick]
  first
    | exact wpAny_bind (m := Builtin.Tuple.tupleExact _) (wpAny_newObj_type (wpAny_pure ⟨_, rfl, wpAny_pure h⟩) htake)
    | exact wpAny_bind (m := Builtin.Tuple.tupleExact _) (wpAny_newObj_type (wpAny_bind (wpAny_pure (wpAny_pure ⟨_, rfl, wpAny_pure h⟩))) htake)
    | exact wpAny_bind (wpAny_bind (m := Builtin.Tuple.tupleExact _) (wpAny_newObj_type (wpAny_pure (wpAny_pure ⟨_, rfl, wpAny_pure h⟩)) htake))
    | exact wpAny_bind (wpAny_bind (m := Builtin.Tuple.tupleExact _) (wpAny_newObj_type (wpAny_pure ⟨_, rfl, wpAny_pure h⟩) htake))
end
section
variable {X : Cx}
def tRev (K : PySem.W.Frag) (te : TE) : TE := fun σ H Q => te σ H fun x H1 => ∃ a xs, x = .ref a ∧ ((SqL K H1 a xs ∧ ∀ p, H1 p = none → Q (.ref p) (upd H1 p (.lst xs.reverse))) ∨ (SqT K H1 a xs ∧ ∀ p, H1 p = none → Q (.ref p) (upd H1 p (.tup xs.reverse))))
theorem pe_rev {e : Expr} {te : TE} {k : Nat} {p1 p2 p3 pos : Pos} (he : PE X e te) : PE X (.Subscript e (.Slice none none (some (.UnaryOp .USub (.Constant (.int 1) k p1) p2)) p3) pos) (tRev X.K te) := by
  refine ⟨fun pins s σ H Q I h => ?_⟩
  refine Subscript_ (thn (he.run pins s σ H _ I h) fun v s1 ⟨x, H1, I1, r1, q1⟩ => ?_)
  obtain ⟨a, xs, ex, hx⟩ := q1
  subst ex
  cases r1
  have hst : PO X (some (.UnaryOp .USub (.Constant (.int 1) k p1) p2)) (tPart (tUn (rU fun i => .int (-i)) (tC (.int 1)))) := po_some (pe_un un_neg pe_int)
  refine wpAny_Slice (thn (po_none.run pins s1 σ H1 (fun o H2 => o = none ∧ H2 = H1) I1 ⟨rfl, rfl⟩) fun vl s2 ⟨l, H2, I2, pl, el, e2⟩ => ?_)
  subst el e2
  refine thn (po_none.run pins s2 σ H2 (fun o H3 => o = none ∧ H3 = H2) I2 ⟨rfl, rfl⟩) fun vu s3 ⟨u, H3, I3, pu, eu, e3⟩ => ?_
  subst eu e3
  refine thn (hst.run pins s3 σ H3 (fun o H4 => o = some (-1) ∧ H4 = H3) I3 ⟨1, rfl, -1, rfl, rfl, rfl⟩) fun vs s4 ⟨o, H4, I4, ps, eo, e4⟩ => ?_
  subst eo e4
  cases pl
  cases pu
  have I5 : Inv X pins σ H4 { s4 with heap := s4.heap.push { cls := .type "slice", data := .fields #[.none, .none, vs] } } := I4.kept (t' := s4.toks) fun b ob q => Heap.get?_push_of_some _ q
  rcases hx with ⟨hx, q⟩ | ⟨hx, q⟩
  · obtain ⟨its, r, ht, hz⟩ := I5.list hx
    have hlen := r.length
    show wpAny (model X.prog X.w) X.A (subscriptTail e (.Slice none none (some (.UnaryOp .USub (.Constant (.int 1) k p1) p2)) p3) (.ref a) (.ref s4.heap.objs.size)) (EP X pins σ Q) X.xe { s4 with heap := s4.heap.push { cls := .type "slice", data := .fields #[.none, .none, vs] } }
    refine tail_any (ops := [.ref a, .ref s4.heap.objs.size]) ht.isList.typeIs (PySem.slot_list_getitem.lookup) ?_ (by with_unfolding_all rfl)
    refine wpAny_getItem_list_slice ht.isList (Heap.IsSliceOf.new _ .none .none vs) .none .none ps (by decide) ?_ (by rw [List.size_toArray]; omega)
    rw [PySem.W.krv_pick]
    refine ⟨.ref _, _, I5.laid (t' := s4.toks) (o := .lst xs.reverse) (fun b ob q => Heap.get?_push_of_some _ q) (Nat.le_refl _) ?_, rfl, q _ (I5.hok.fresh (Nat.le_refl _))⟩
    exact ⟨by rw [List.length_reverse]; exact hz, _, 0, r.reverse, Heap.get?_push_size _ rfl⟩
  · obtain ⟨its, r, ht, hz⟩ := I5.tuple hx
    have hlen := r.length
    show wpAny (model X.prog X.w) X.A (subscriptTail e (.Slice none none (some (.UnaryOp .USub (.Constant (.int 1) k p1) p2)) p3) (.ref a) (.ref s4.heap.objs.size)) (EP X pins σ Q) X.xe { s4 with heap := s4.heap.push { cls := .type "slice", data := .fields #[.none, .none, vs] } }
    refine tail_any (ops := [.ref a, .ref s4.heap.objs.size]) ht.typeIs (PyProof.Rows.slot_tuple_getitem.lookup) ?_ (by with_unfolding_all rfl)
    refine getItem_tuple_rev ht (Heap.IsSliceOf.new _ .none .none vs) ps ?_ (by rw [List.size_toArray]; omega)
    refine ⟨.ref _, _, I5.laid (t' := s4.toks) (o := .tup xs.reverse) (fun b ob q => Heap.get?_push_of_some _ q) (Nat.le_refl _) ?_, rfl, q _ (I5.hok.fresh (Nat.le_refl _))⟩
    exact ⟨by rw [List.length_reverse]; exact hz, _, r.reverse, IsTup.new _ _⟩
variable {B : Nm} {a : Expr} {ra : Sl → SH → R PV} {pos : Pos}
theorem se_rev {z : Bool} {k : Nat} {p1 p2 p3 : Pos} (ha : SE B X a ra) : SE B X (.Subscript a (.Slice none none (some (.UnaryOp .USub (.Constant (.int 1) k p1) p2)) p3) pos) (fun σ s => (ra σ s).bind fun x s => revV z x s) :=
  (pe_rev ha).imp fun τ H Q ⟨m, s, σ, st, kk⟩ =>
    TEi.bind (f := fun σ x s => revV z x s) st kk fun v s1 m1 H1 x g1 st1 rv k1 => by
      unfold revV at k1
      split at k1
      · rename_i xs
        obtain ⟨p, vs, rfl, hp, rr⟩ := rv
        exact ⟨p, vs, rfl, .inr ⟨hp.sq, fun q hq => Kon.tup st1.mt k1 rr.reverse hq⟩⟩
      · obtain ⟨xs, e, k2⟩ := Kon.liftO k1
        obtain ⟨q, vs, rfl, hq, rr⟩ := lstOf_ok st1.mt e rv
        exact ⟨q, vs, rfl, .inl ⟨hq, fun p hp => Kon.lst st1.mt k2 rr.reverse hp⟩⟩
end
end CS
end CSExp2_

section CSKsp_
set_option maxRecDepth 100000
namespace CS
open PySem PySem.W PySem.Calls PyProof.Rows
section
variable {prog : Program} {w : World} {M : Model} {A : Around} {E : Value → Shared → Prop} {s : Shared} {K : Frag} {x C D L f : Addr} {h₀ : Heap} {m : Str → Option Value} {ox : Obj} {od : Option Obj} {nm : String}
/-- a class without an operator, its only base object -/
structure NoOp (K : Frag) (D : Addr) (nm : String) : Prop where
  mro : ∃ cd, clsIn K D = some cd ∧ cd.mro = [.ref D, .type "object"]
  a : findIn K (.ref D) (PySem.dunder nm) = some none
  r : findIn K (.ref D) (dunderR nm) = some none
  oa : findIn K (.type "object") (PySem.dunder nm) = some none
  or : findIn K (.type "object") (dunderR nm) = some none
theorem fills_none {h : Heap} (X : K.In h) (n : NoOp K D nm) : Looks M h (fillsNumberSlot (.ref D) nm) false := by
  obtain ⟨cd, hc, hm⟩ := n.mro
  intro A Q E s k q
  unfold fillsNumberSlot
  refine wpAny_bind ((looks_clsIn X hc).andThen (f := fun cd => pure cd.mro) .now A _ E s k ?_)
  rw [hm, List.anyM_cons]
  refine wpAny_bind ?_
  show wpAny M A (List.anyM _ [PySem.dunder nm, dunderR nm]) _ _ _
  rw [List.anyM_cons]
  refine wpAny_bind (wpAny_bind (looks_findIn X n.a A _ E s k ?_))
  dsimp only
  refine wpAny_pure ?_
  rw [if_neg (by simp), List.anyM_cons]
  refine wpAny_bind (wpAny_bind (looks_findIn X n.r A _ E s k ?_))
  dsimp only
  refine wpAny_pure ?_
  rw [if_neg (by simp)]
  refine wpAny_pure ?_
  rw [if_neg (by simp), List.anyM_cons]
  refine wpAny_bind ?_
  dsimp only
  refine wpAny_bind (looks_findIn X n.oa A _ E s k ?_)
  refine wpAny_bind (looks_findIn X n.or A _ E s k ?_)
  refine wpAny_pure ?_
  rw [if_neg (by simp)]
  exact wpAny_pure q
theorem ksp_binR {op : Operator} {b : Value} {Q : Value → Shared → Prop} (F : Fr h₀ L s.heap m) (X₀ : K.In h₀) (I : InstAt s.heap x ox C od) (hb : Looks (model prog w) s.heap (typeOf b) (.ref D)) (hd : C ≠ D) (hc : selfFirst K C = true)
    (hs : findIn K (.ref C) (PySem.dunder op.info.2) = some (some (.ref f))) (hf : isFn K (.ref f) = true) (hn : NoOp K D op.info.2)
    (h : wpAny (model prog w) A (call (.ref f) [.ref x, b]) (PySem.W.CmpBack Q) E s) : wpAny (model prog w) A (binaryOp op (.ref x) b) Q E s := by
  have X := X₀.keeps F.keep
  obtain ⟨cd, rest, hcd, hm⟩ := ksp_first hc
  rcases hi : op.info with ⟨sym, nm'⟩
  rw [hi] at hs hn
  dsimp only at hs hn
  have one := ksp_try X I hs hf h
  obtain ⟨hh, g, d, tt, os⟩ := s
  have L1 : Looks (model prog w) hh (typeOf (.ref x)) (.ref C) := I.type
  have L2 : Looks (model prog w) hh (typeOf b) (.ref D) := hb
  have L3 : Looks (model prog w) hh (fillsNumberSlot (.ref C) nm') true := fills_K X hcd hm hs
  have L4 : Looks (model prog w) hh (fillsNumberSlot (.ref D) nm') false := fills_none X hn
  have hne : (Value.ref C == Value.ref D) = false := Bool.eq_false_iff.mpr fun q => by
    have := beq_iff_eq.mp q
    injection this with e
    exact hd e
  simp only [binaryOp, hi]
  refine wpAny_holding (wpAny_bind ?_)
  unfold binaryOp1
  refine wpAny_bind (L1.at (wpAny_bind (L2.at (wpAny_bind (L3.at ?_)))))
  simp only [hne, Bool.false_eq_true, if_false]
  ksp_lk
  refine wpAny_mono one (fun r s' hr' => ?_) fun _ _ e => e
  obtain ⟨v, rfl, hq⟩ := hr'
  ksp_lk
  exact hq
end
end CS
end CSKsp_

section CSKit_
set_option maxRecDepth 100000
set_option maxHeartbeats 1000000
namespace CS
open PySem L2
variable {z : Bool}

/-! ### isinstance -/
def tyStr : Ty → String
  | .int => "int" | .bool => "bool" | .str => "str" | .list => "list" | .tuple => "tuple" | .own _ => ""
def tyVal (B : Nm) : Ty → V
  | .own c => .ref (B.ca c)
  | t => .ty (tyStr t)
def tyValue (B : Nm) : Ty → Value
  | .own c => .ref (B.ca c)
  | t => .type (tyStr t)
theorem ty_cls (B : Nm) (t : Ty) : ClsV (tyVal B t) (tyValue B t) := by
  cases t <;> first | exact .ty _ | exact .own _
theorem tys_paired (B : Nm) : ∀ Ts : List Ty, Paired ClsV (Ts.map (tyVal B)) (Ts.map (tyValue B))
  | [] => .nil
  | T :: Ts => .cons (ty_cls B T) (tys_paired B Ts)
structure KitOk (B : Nm) (K : PySem.W.Frag) : Prop where
  cl : ∀ c, c < B.nc → Cls K (B.ca c) ∧ PySem.W.findIn K (.ref (B.ca c)) "__class__" = some (some (.builtin "object.__class__")) ∧ PySem.W.mroIn K (B.ca c) (.type "object") = some true
  gt : PySem.W.specialIn K (.builtin "object.__class__") "__get__" = some (some (.builtin "getset_descriptor.__get__")) ∧ PySem.W.takesIn K (.builtin "object.__class__") = some true
  oo : ∀ c d, c < B.nc → d < B.nc → PySem.W.kitOne K (.ref (B.ca c)) (.ref (B.ca d)) = some (decide (c = d))
  ob : ∀ c, c < B.nc → ∀ T, T ∈ ["int", "bool", "str", "list", "tuple"] → PySem.W.kitOne K (.ref (B.ca c)) (.type T) = some false
  bo : ∀ c, c < B.nc → ∀ T, T ∈ ["NoneType", "bool", "int", "str", "list", "tuple"] → PySem.W.kitOne K (.type T) (.ref (B.ca c)) = some false
/-- a class that is in the table -/
def tyIn (B : Nm) : Ty → Prop
  | .own c => c < B.nc
  | _ => True
theorem kit_non (K : PySem.W.Frag) (B : Nm) (KO : KitOk B K) : ∀ t, tyIn B t → PySem.W.kitOne K (.type "NoneType") (tyValue B t) = some false
  | .int, _ => kit_ty (by decide +kernel)
  | .bool, _ => kit_ty (by decide +kernel)
  | .str, _ => kit_ty (by decide +kernel)
  | .list, _ => kit_ty (by decide +kernel)
  | .tuple, _ => kit_ty (by decide +kernel)
  | .own c, h => KO.bo c h _ (by simp)
theorem kit_bool (K : PySem.W.Frag) (B : Nm) (KO : KitOk B K) : ∀ t, tyIn B t → PySem.W.kitOne K (.type "bool") (tyValue B t) = some (match t with | .int => true | .bool => true | _ => false)
  | .int, _ => kit_ty (by decide +kernel)
  | .bool, _ => kit_ty (by decide +kernel)
  | .str, _ => kit_ty (by decide +kernel)
  | .list, _ => kit_ty (by decide +kernel)
  | .tuple, _ => kit_ty (by decide +kernel)
  | .own c, h => KO.bo c h _ (by simp)
theorem kit_int (K : PySem.W.Frag) (B : Nm) (KO : KitOk B K) : ∀ t, tyIn B t → PySem.W.kitOne K (.type "int") (tyValue B t) = some (match t with | .int => true | _ => false)
  | .int, _ => kit_ty (by decide +kernel)
  | .bool, _ => kit_ty (by decide +kernel)
  | .str, _ => kit_ty (by decide +kernel)
  | .list, _ => kit_ty (by decide +kernel)
  | .tuple, _ => kit_ty (by decide +kernel)
  | .own c, h => KO.bo c h _ (by simp)
theorem kit_str (K : PySem.W.Frag) (B : Nm) (KO : KitOk B K) : ∀ t, tyIn B t → PySem.W.kitOne K (.type "str") (tyValue B t) = some (match t with | .str => true | _ => false)
  | .int, _ => kit_ty (by decide +kernel)
  | .bool, _ => kit_ty (by decide +kernel)
  | .str, _ => kit_ty (by decide +kernel)
  | .list, _ => kit_ty (by decide +kernel)
  | .tuple, _ => kit_ty (by decide +kernel)
  | .own c, h => KO.bo c h _ (by simp)
theorem kit_list (K : PySem.W.Frag) (B : Nm) (KO : KitOk B K) : ∀ t, tyIn B t → PySem.W.kitOne K (.type "list") (tyValue B t) = some (match t with | .list => true | _ => false)
  | .int, _ => kit_ty (by decide +kernel)
  | .bool, _ => kit_ty (by decide +kernel)
  | .str, _ => kit_ty (by decide +kernel)
  | .list, _ => kit_ty (by decide +kernel)
  | .tuple, _ => kit_ty (by decide +kernel)
  | .own c, h => KO.bo c h _ (by simp)
theorem kit_tuple (K : PySem.W.Frag) (B : Nm) (KO : KitOk B K) : ∀ t, tyIn B t → PySem.W.kitOne K (.type "tuple") (tyValue B t) = some (match t with | .tuple => true | _ => false)
  | .int, _ => kit_ty (by decide +kernel)
  | .bool, _ => kit_ty (by decide +kernel)
  | .str, _ => kit_ty (by decide +kernel)
  | .list, _ => kit_ty (by decide +kernel)
  | .tuple, _ => kit_ty (by decide +kernel)
  | .own c, h => KO.bo c h _ (by simp)
theorem kit_own (K : PySem.W.Frag) (B : Nm) (KO : KitOk B K) (c : Nat) (hc : c < B.nc) : ∀ t, tyIn B t → PySem.W.kitOne K (.ref (B.ca c)) (tyValue B t) = some (match t with | .own d => decide (c = d) | _ => false)
  | .int, _ => KO.ob c hc _ (by simp [tyStr])
  | .bool, _ => KO.ob c hc _ (by simp [tyStr])
  | .str, _ => KO.ob c hc _ (by simp [tyStr])
  | .list, _ => KO.ob c hc _ (by simp [tyStr])
  | .tuple, _ => KO.ob c hc _ (by simp [tyStr])
  | .own d, h => KO.oo c d hc h
/-- the types that there are -/
def tyKind (B : Nm) (tx : Value) : Prop := (∃ T, T ∈ ["NoneType", "bool", "int", "str", "list", "tuple"] ∧ tx = .type T) ∨ ∃ d, d < B.nc ∧ tx = .ref (B.ca d)
theorem nf_of {K : PySem.W.Frag} {t : Value} {C : Addr} (e : PySem.W.kitOne K t (.ref C) = some false) : PySem.W.notFirst K C t = true := by
  unfold PySem.W.kitOne at e
  split at e
  · cases e
  · unfold PySem.W.kitCls at e
    simp only at e
    split at e
    · unfold PySem.W.notFirst; rw [e]; simp
    · cases e
theorem kind_nf {B : Nm} {K : PySem.W.Frag} {tx : Value} (KO : KitOk B K) (h : tyKind B tx) {c : Nat} (hc : c < B.nc) : PySem.W.notFirst K (B.ca c) tx = true := by
  rcases h with ⟨T, hT, rfl⟩ | ⟨d, hd, rfl⟩
  · exact nf_of (KO.bo c hc T hT)
  · by_cases e : d = c
    · subst e; unfold PySem.W.notFirst; simp
    · have := KO.oo d c hd hc
      rw [decide_eq_false e] at this
      exact nf_of this
/-- a value's type in the machine, and what isTy says of it -/
theorem ty_ok {B : Nm} {K : PySem.W.Frag} {m : Mp} {s : SH} {H : Hp} {v : PV} {x : V} (KO : KitOk B K) (M : Match B K m s H) (r : RV K m s.length H v x) :
    (∃ n, v = .ref n ∧ s[n]? = none) ∨ ∃ tx, TyX K H x tx ∧ tyKind B tx ∧ ∀ t, tyIn B t → ∀ b, isTy s t v = some b → PySem.W.kitOne K tx (tyValue B t) = some b := by
  cases v with
  | non => cases r; exact .inr ⟨_, .base .non, .inl ⟨_, by simp, rfl⟩, fun t ht b e => by rw [kit_non K B KO t ht]; cases t <;> exact e⟩
  | bl c => cases r; exact .inr ⟨_, .base (.bl c), .inl ⟨_, by simp, rfl⟩, fun t ht b e => by rw [kit_bool K B KO t ht]; cases t <;> exact e⟩
  | int c => cases r; exact .inr ⟨_, .base (.int c), .inl ⟨_, by simp, rfl⟩, fun t ht b e => by rw [kit_int K B KO t ht]; cases t <;> exact e⟩
  | str c => cases r; exact .inr ⟨_, .base (.str c), .inl ⟨_, by simp, rfl⟩, fun t ht b e => by rw [kit_str K B KO t ht]; cases t <;> exact e⟩
  | tup xs =>
    obtain ⟨p, us, rfl, hp, rr⟩ := r
    refine .inr ⟨.type "tuple", ?_, .inl ⟨_, by simp, rfl⟩, fun t ht b e => by rw [kit_tuple K B KO t ht]; cases t <;> exact e⟩
    rcases hp with hp | ⟨_, o, n, h1, h2, _⟩
    · exact .base (.tup hp)
    · exact .kTuple h1 h2
  | rol xs =>
    obtain ⟨p, us, rfl, z, hp, rr⟩ := r
    exact .inr ⟨.type "list", .base (.lst hp), .inl ⟨_, by simp, rfl⟩, fun t ht b e => by rw [kit_list K B KO t ht]; cases t <;> exact e⟩
  | obj c xs =>
    obtain ⟨q, dx, gs, rfl, z, eH, hcn, _, _, _⟩ := r
    rw [M.nb] at eH hcn
    obtain ⟨h1, h2, h3⟩ := KO.cl c hcn
    exact .inr ⟨_, .base (.ins eH h1 h2 KO.gt.1 KO.gt.2 h3), .inr ⟨c, hcn, rfl⟩, fun t ht b e => by
      rw [kit_own K B KO c hcn t ht]
      cases t <;> exact e⟩
  | scr xs =>
    obtain ⟨p, us, rfl, hp, rr⟩ := r
    refine .inr ⟨.type "list", ?_, .inl ⟨_, by simp, rfl⟩, fun t ht b e => by rw [kit_list K B KO t ht]; cases t <;> exact e⟩
    rcases hp with ⟨o, hp⟩ | ⟨o, its, n, h1, h2, _⟩
    · exact .base (.frz hp)
    · exact .kList h1 h2
  | ref n =>
    cases hc : s[n]? with
    | none => exact .inl ⟨n, rfl, hc⟩
    | some c =>
      obtain ⟨_, rfl⟩ := r
      right
      cases c with
      | lst ys =>
        obtain ⟨us, eH, rr⟩ := M.cl n _ hc
        exact ⟨_, .base (.lst eH), .inl ⟨_, by simp, rfl⟩, fun t ht b e => by
          rw [kit_list K B KO t ht]
          cases t <;> (simp only [isTy, hc] at e; exact e)⟩
      | ins c fs =>
        obtain ⟨dx, gs, eH, hcn, rf⟩ := M.cl n _ hc
        obtain ⟨h1, h2, h3⟩ := KO.cl c hcn
        exact ⟨_, .base (.ins eH h1 h2 KO.gt.1 KO.gt.2 h3), .inr ⟨c, hcn, rfl⟩, fun t ht b e => by
          rw [kit_own K B KO c hcn t ht]
          cases t <;> (simp only [isTy, hc] at e; exact e)⟩
theorem right_ty {B : Nm} {K : PySem.W.Frag} {m : Mp} {s : SH} {H : Hp} {w : PV} {y : V} {c : Nat} (KO : KitOk B K) (hc : c < B.nc) (M : Match B K m s H) (r : RV K m s.length H w y) : ∃ ty, TyX K H y ty ∧ PySem.W.notFirst K (B.ca c) ty = true := by
  rcases ty_ok KO M r with ⟨n, rfl, hn⟩ | ⟨tx, htx, hk, hall⟩
  · have : n < s.length := r.1
    rw [List.getElem?_eq_getElem this] at hn; cases hn
  · exact ⟨tx, htx, kind_nf KO hk hc⟩
theorem kitAny_ok {B : Nm} {K : PySem.W.Frag} {s : SH} {v : PV} {tx : Value} (h : ∀ t, tyIn B t → ∀ b, isTy s t v = some b → PySem.W.kitOne K tx (tyValue B t) = some b) : ∀ {ts : List Ty} {b : Bool}, (∀ t ∈ ts, tyIn B t) → isTys s v ts = some b → PySem.W.kitAny K tx (ts.map (tyValue B)) = some b
  | [], b, _, e => e
  | t :: ts, b, hi, e => by
    simp only [isTys] at e
    cases e1 : isTy s t v with
    | none => rw [e1] at e; cases e
    | some d =>
      rw [e1] at e
      have k1 := h t (hi t (List.mem_cons_self ..)) d e1
      cases d with
      | true => cases e; exact kitAny_cons k1 (fun q => by cases q) (fun _ => rfl)
      | false => exact kitAny_cons k1 (fun _ => kitAny_ok h (fun u hu => hi u (List.mem_cons_of_mem _ hu)) e) (fun q => by cases q)
end CS
end CSKit_

section CSCall_
set_option maxRecDepth 100000
set_option maxHeartbeats 1000000
namespace CS
open PySem L2

/-- a text: its tables and where its things stand -/
structure Pk where
  G : Gs
  C : Cc
  B : Nm
  fa : Nat → Addr
  fd : Nat → FuncData
  ps : Nat → List Str
  pa : Nat → Nat → Addr
  bs : List (Nat × Nat × List Str × List Nat)

def BindOk (P : Pk) (K : PySem.W.Frag) (f n : Nat) (ks : List Str) (perm : List Nat) : Prop :=
  ∃ F ds dvs, P.G.fns[f]? = some F ∧ Vals dvs ds ∧ (∀ m n' H, RVs K m n' H (dfl F (n + ks.length)) dvs) ∧
    ∀ (s : Shared) (us ws : List Value), K.In s.heap → us.length = n → ws.length = ks.length → BindsTo s (P.fd f) ⟨us, ks.zip ws⟩ ((P.ps f).zip (ordL perm (us ++ ws) ++ ds))
/-- a def's promise by what calls do -/
def spI (B : Nm) (K : PySem.W.Frag) (call : Nat → List PV → SH → R PV) (f np : Nat) : Sp := fun xs H Q _ => ∃ m s vs, Match B K m s H ∧ RVs K m s.length H vs xs ∧ vs.length = np ∧ Kon B K (RV K) (call f vs s) m s H Q
def CallOk (P : Pk) (prog : Program) (w : World) (K : PySem.W.Frag) (mg : Str → Option Value) (base : Heap) (k : Nat) (call : Nat → List PV → SH → R PV) : Prop :=
  ∀ f F, P.G.fns[f]? = some F → FnOk prog w K mg base CX0 k (P.fa f) (P.fd f) (P.ps f) (spI P.B K call f F.np)

/-- a static method: its record at p, its def at g -/
structure SMet (K : PySem.W.Frag) (C : Addr) (m : Str) (g : Addr) : Prop where
  ex : ∃ mc p rest, PySem.W.readsIn K C mc = true ∧ PySem.W.findCls K (.ref C) mc m = some (.get (.builtin "staticmethod.__get__") (.ref p) .none (.ref C)) ∧ PySem.W.recIn K p "staticmethod" = some (.ref g :: rest)
  ga : PySem.W.specialIn K (.ref C) "__getattribute__" = some (some (.builtin "type.__getattribute__"))
  kp : PySem.W.keepIn K (.ref g) = true
/-- what a class has -/
structure ClOk (P : Pk) (K : PySem.W.Frag) (c : Nat) (Cl : ClI) : Prop where
  cl : Cls K (P.B.ca c)
  mkk : Mk K (P.B.ca c) (P.fa Cl.init)
  meths : ∀ m f, Cl.meths.lookup m = some f → m < P.B.nm.length ∧ Meth K (P.B.ca c) (nmOf P.B m) (P.fa f)
  mfn : ∀ m f, Cl.meths.lookup m = some f → PySem.W.fnIn K (P.fa f) = true
  props : ∀ m f, Cl.props.lookup m = some f → ∃ F, P.G.fns[f]? = some F ∧ F.np = 1 ∧ (f, 1, [], []) ∈ P.bs ∧ PropOf K (P.B.ca c) (nmOf P.B m) (P.pa c m) (P.fa f)
  flds : ∀ f, Cl.flds.contains f = true → f < P.B.nm.length ∧ NoAttr K (P.B.ca c) (nmOf P.B f)
  ne : PySem.W.findIn K (.ref (P.B.ca c)) "__ne__" = some (some (.builtin "object.__ne__"))
  ob : PySem.W.mroIn K (P.B.ca c) (.type "object") = some true
/-- an own binary operator -/
structure OwnBin (P : Pk) (K : PySem.W.Frag) (c f : Nat) (op : Operator) : Prop where
  at_ : PySem.W.findIn K (.ref (P.B.ca c)) (PySem.dunder op.info.2) = some (some (.ref (P.fa f)))
  fn : PySem.W.isFn K (.ref (P.fa f)) = true
  sf : PySem.W.selfFirst K (P.B.ca c) = true
  rf : ∃ rc, PySem.W.findIn K (.ref (P.B.ca c)) (dunderR op.info.2) = some rc ∧ (rc = none ∨ ∃ g : Addr, rc = some (.ref g))
  it : ∃ fo ro, PySem.W.findIn K (.type "int") (PySem.dunder op.info.2) = some fo ∧ PySem.W.findIn K (.type "int") (dunderR op.info.2) = some ro
  sub : PySem.W.subIn K (.type "int") (.ref (P.B.ca c)) = some false
  F : ∃ F, P.G.fns[f]? = some F ∧ F.np = 2 ∧ (f, 2, [], []) ∈ P.bs
  oth : ∀ (d : Nat) (Dl : ClI) (o : BinO), P.G.cls[d]? = some Dl → binOf op = some o → (binId o).bind (fun i => Dl.meths.lookup i) = none → P.B.ca c ≠ P.B.ca d ∧ NoOp K (P.B.ca d) op.info.2
/-- x[i] by an own method -/
structure OwnGet (P : Pk) (K : PySem.W.Frag) (c f : Nat) : Prop where
  at_ : PySem.W.findIn K (.ref (P.B.ca c)) "__getitem__" = some (some (.ref (P.fa f)))
  fi : PySem.W.fnIn K (P.fa f) = true
  fn : PySem.W.isFn K (.ref (P.fa f)) = true
  F : ∃ F, P.G.fns[f]? = some F ∧ F.np = 2 ∧ (f, 2, [], []) ∈ P.bs
/-- len(x) by an own method -/
structure OwnLen (P : Pk) (K : PySem.W.Frag) (c f : Nat) : Prop where
  at_ : PySem.W.findIn K (.ref (P.B.ca c)) "__len__" = some (some (.ref (P.fa f)))
  fn : PySem.W.isFn K (.ref (P.fa f)) = true
  F : ∃ F, P.G.fns[f]? = some F ∧ F.np = 1 ∧ (f, 1, [], []) ∈ P.bs
/-- the text as it stands behind its top -/
structure PkOk (P : Pk) (K : PySem.W.Frag) (mg : Str → Option Value) : Prop where
  nm : P.B.nm = P.C.nm
  nd : P.B.nm.Nodup
  d0 : nmOf P.B 0 = "__eq__"
  np : ∀ f F, P.G.fns[f]? = some F → (P.ps f).length = F.np
  eqb : ∀ (c : Nat) (Cl : ClI) (f : Nat), P.G.cls[c]? = some Cl → Cl.meths.lookup 0 = some f → ∃ F, P.G.fns[f]? = some F ∧ F.np = 2 ∧ (f, 2, [], []) ∈ P.bs
  nc : P.B.nc = P.G.cls.length
  fl : ∀ (c : Nat) (Cl : ClI), P.G.cls[c]? = some Cl → P.B.fl c = Cl.flds
  bis : ∀ x, P.C.bis.contains x = true → mg x = none
  fns : ∀ x f ps, P.C.fns.lookup x = some (f, ps) → mg x = some (.ref (P.fa f)) ∧ PySem.W.keepIn K (.ref (P.fa f)) = true
  cls : ∀ x c f ps, P.C.cls.lookup x = some (c, f, ps) → mg x = some (.ref (P.B.ca c)) ∧ ∃ Cl, P.G.cls[c]? = some Cl ∧ Cl.init = f
  bse : ∀ q, P.C.bs.contains q = true → q ∈ P.bs
  consts : ∀ x v, P.C.consts.lookup x = some v → ∃ y u, mg x = some u ∧ RelV y u ∧ ∀ m n H, RV K m n H v y
  clo : ∀ c Cl, P.G.cls[c]? = some Cl → ClOk P K c Cl
  bnd : ∀ f n ks perm, (f, n, ks, perm) ∈ P.bs → BindOk P K f n ks perm
  bop : ∀ (c : Nat) (Cl : ClI) (op : Operator) (o : BinO) (f : Nat), P.G.cls[c]? = some Cl → binOf op = some o → (binId o).bind (fun i => Cl.meths.lookup i) = some f → OwnBin P K c f op
  ms : ∀ (m : Nat) (fs : List Nat) (c : Nat) (Cl : ClI) (f : Nat), P.C.ms.lookup m = some fs → P.G.cls[c]? = some Cl → Cl.meths.lookup m = some f → f ∈ fs
  sm : ∀ (x m : Str) (f : Nat), P.C.sm.lookup (x, m) = some f → ∃ C : Addr, mg x = some (.ref C) ∧ SMet K C m (P.fa f)
  gi : ∀ (c : Nat) (Cl : ClI) (f : Nat), P.G.cls[c]? = some Cl → Cl.meths.lookup 9 = some f → OwnGet P K c f
  ln : ∀ (c : Nat) (Cl : ClI) (f : Nat), P.G.cls[c]? = some Cl → Cl.meths.lookup 8 = some f → OwnLen P K c f

theorem mapM_len {α β : Type} {f : α → Option β} : ∀ {xs : List α} {ys : List β}, xs.mapM f = some ys → ys.length = xs.length
  | [], ys, h => by cases h; rfl
  | x :: xs, ys, h => by
    obtain ⟨y, zs, _, e2, rfl⟩ := mapM_cons_some h
    simp only [List.length_cons, mapM_len e2]
/-! ### orders -/
theorem Paired.ord {α β : Type} {F : α → β → Prop} : ∀ (perm : List Nat) {xs : List α} {ys : List β}, Paired F xs ys → Paired F (perm.filterMap fun i => xs[i]?) (perm.filterMap fun i => ys[i]?)
  | [], _, _, _ => .nil
  | p :: ps, xs, ys, h => by
    have ih := Paired.ord ps h
    have key : (∃ x y, xs[p]? = some x ∧ ys[p]? = some y ∧ F x y) ∨ (xs[p]? = none ∧ ys[p]? = none) := by
      clear ih
      induction h generalizing p with
      | nil => exact .inr ⟨by simp, by simp⟩
      | cons r t ih2 =>
        cases p with
        | zero => exact .inl ⟨_, _, by simp, by simp, r⟩
        | succ q => simpa using ih2 (p := q)
    rcases key with ⟨x, y, e1, e2, r⟩ | ⟨e1, e2⟩
    · rw [List.filterMap_cons, List.filterMap_cons, e1, e2]; exact .cons r ih
    · rw [List.filterMap_cons, List.filterMap_cons, e1, e2]; exact ih
theorem Vals.ord {perm : List Nat} {xs : List V} {us : List Value} (h : Vals xs us) : Vals (ordL perm xs) (ordL perm us) := by
  unfold ordL
  split
  · exact h
  · exact Paired.ord perm h
theorem RVs.paired {K : PySem.W.Frag} {m : Mp} {n : Nat} {H : Hp} : ∀ {xs : List PV} {vs : List V}, RVs K m n H xs vs → Paired (fun x v => RV K m n H x v) xs vs
  | [], _, h => by rw [show _ = [] from h]; exact .nil
  | x :: xs, _, h => by obtain ⟨v, r, rfl, h1, h2⟩ := h; exact .cons h1 (RVs.paired h2)
theorem RVs.of_paired {K : PySem.W.Frag} {m : Mp} {n : Nat} {H : Hp} : ∀ {xs : List PV} {vs : List V}, Paired (fun x v => RV K m n H x v) xs vs → RVs K m n H xs vs
  | _, _, .nil => rfl
  | _, _, .cons h1 h2 => ⟨_, _, rfl, h1, RVs.of_paired h2⟩
theorem RVs.ord {K : PySem.W.Frag} {m : Mp} {n : Nat} {H : Hp} {perm : List Nat} {xs : List PV} {vs : List V} (h : RVs K m n H xs vs) : RVs K m n H (ordL perm xs) (ordL perm vs) := by
  unfold ordL
  split
  · exact h
  · exact RVs.of_paired (Paired.ord perm h.paired)

section
variable {P : Pk} {X : Cx} {call : Nat → List PV → SH → R PV} {k : Nat}
/-- a def runs -/
theorem run_def {pins : List (Addr × Obj)} {τ : St} {H : Hp} {s0 : Shared} {Q : VK} {f : Nat} {F : FnI} {us ws : List Value} {vs zs : List V} {ks : List Str} {perm : List Nat} {m : Mp} {s : SH} {ps : List PV}
    (CO : CallOk P X.prog X.w X.K X.mg X.base k call) (hr : Room k X.A) (hb : BindOk P X.K f us.length ks perm) (I : Inv X pins τ H s0) (r : Vals vs us) (rz : Vals zs ws) (hz : zs.length = ks.length)
    (M : Match P.B X.K m s H) (rp : RVs X.K m s.length H ps (vs ++ zs)) (kon : Kon P.B X.K (RV X.K) (callV P.G call f ps perm s) m s H Q) :
    wpAny (model X.prog X.w) X.A (PySem.call (.ref (P.fa f)) us (ks.zip ws)) (EP X pins τ Q) X.xe s0 := by
  obtain ⟨F, ds, dvs, hF, rd, rdf, hbb⟩ := hb
  obtain ⟨full, e, kk⟩ := Kon.liftO kon
  unfold padA at e
  rw [hF] at e
  dsimp only at e
  split at e
  · rename_i hl
    cases e
    have lp : ps.length = us.length + ks.length := by
      rw [← rp.length, List.length_append, r.length, hz]
    have rf : RVs X.K m s.length H (ordL perm ps ++ dfl F ps.length) (ordL perm (vs ++ zs) ++ dvs) := by
      rw [lp]
      exact RVs.append rp.ord (rdf m s.length H)
    have rV : Vals (ordL perm (vs ++ zs) ++ dvs) (ordL perm (us ++ ws) ++ ds) := (Vals.ord (r.append rz)).append rd
    have hsp : spI P.B X.K call f F.np (ordL perm (vs ++ zs) ++ dvs) H Q E0 := ⟨m, s, _, M, rf, hl, kk⟩
    refine wpAny_call (codeAny_mono ((CO f F hF).run X.A X.stack s0 H ⟨us, ks.zip ws⟩ _ _ Q E0 hr I.env0 (hbb s0 us ws I.kIn rfl (by rw [← rz.length]; exact hz)) rV hsp) fun q s' hq => ?_)
    cases q with
    | error e => exact hq.elim
    | ok fl =>
      cases fl with
      | ret u => exact I.after hq
      | next => exact False.elim hq
      | brk => exact False.elim hq
      | cont => exact False.elim hq
  · cases e

abbrev SK (B : Nm) (X : Cx) (kws : List Keyword) (r : Sl → SH → R (List PV)) : Prop := PK X kws (TAi B X.K r)
variable {e : Expr} {es : List Expr} {kws : List Keyword} {pos p apos : Pos} {x : Str} {rs rk : Sl → SH → R (List PV)} {ra : Sl → SH → R PV}
theorem sk_nil : SK P.B X [] (fun _ s => .ok [] s) := ⟨fun pos pins s0 τ H Q I ⟨m, s, σ, st, k⟩ => pk_nil.run pos pins s0 τ H Q I (Kon.valA st.mt k rfl)⟩
theorem sk_cons {nm : Option Str} {kpos : Pos} (ha : SE P.B X e ra) (hr : SK P.B X kws rk) :
    SK P.B X (⟨nm, e, kpos⟩ :: kws) (fun σ s => (ra σ s).bind fun x s => (rk σ s).bind fun xs s => .ok (x :: xs) s) :=
  ⟨fun pos pins s0 τ H Q I ⟨m, s, σ, st, k⟩ => (pk_cons ha hr).run pos pins s0 τ H Q I
    (TEi.bind (f := fun σ x s => (rk σ s).bind fun xs s => R.ok (x :: xs) s) st k fun v s1 m1 H1 x g1 st1 rv k1 =>
      TAi.bind (f := fun σ xs s => R.ok (v :: xs) s) st1 k1 fun vs s2 m2 H2 xs g2 st2 rvs k2 =>
        Kon.valA st2.mt k2 ⟨x, xs, rfl, RV.le (g2.le st1.mt) _ _ rv, rvs⟩)⟩
theorem tai_run {Q : VK} {τ : St} {H : Hp} {m : Mp} {s : SH} {σ : Sl} {f : Nat} {perm : List Nat} (st : StOk P.B X.K m s H σ τ)
    (kon : Kon P.B X.K (RV X.K) ((rs σ s).bind fun vs s => (rk σ s).bind fun ws s => callV P.G call f (vs ++ ws) perm s) m s H Q) :
    TAi P.B X.K rs τ H fun vs H1 => TAi P.B X.K rk τ H1 fun zs H2 => ∃ m2 s2 ps, Match P.B X.K m2 s2 H2 ∧ RVs X.K m2 s2.length H2 ps (vs ++ zs) ∧ Kon P.B X.K (RV X.K) (callV P.G call f ps perm s2) m2 s2 H2 Q :=
  TAi.bind (f := fun σ vs s => (rk σ s).bind fun ws s => callV P.G call f (vs ++ ws) perm s) st kon fun vs s1 m1 H1 xs g1 st1 rvs k1 =>
    TAi.bind (f := fun σ ws s => callV P.G call f (vs ++ ws) perm s) st1 k1 fun ws s2 m2 H2 zs g2 st2 rzs k2 =>
      ⟨m2, s2, vs ++ ws, st2.mt, RVs.append (RVs.le (g2.le st1.mt) _ _ rvs) rzs, k2⟩
/-- the values of a call, then the call -/
theorem callWith_gen {f : Value} {first : List Value} {pins : List (Addr × Obj)} {τ : St} {H : Hp} {s0 : Shared} {Q : VK} {ks : List Str} {G : List V → List V → Hp → Prop} (hk : PySem.W.keepIn X.K f = true)
    (ha : SA P.B X es rs) (hkw : SK P.B X kws rk) (hp : plainArgs es = true) (hall : (backToKw pos (keywordEach kws X.env)).all (·.1.isSome) = true) (hks : (backToKw pos (keywordEach kws X.env)).filterMap (·.1) = ks)
    (hnn : (backToKw pos (keywordEach kws X.env)).any (·.1.isNone) = false) (hes : es = [] → rs = fun _ s => .ok [] s) (hk0 : kws = [] → rk = fun _ s => .ok [] s) (I : Inv X pins τ H s0)
    (key : TAi P.B X.K rs τ H fun vs H1 => TAi P.B X.K rk τ H1 fun zs H2 => G vs zs H2)
    (fin : ∀ (us ws : List Value) (vs zs : List V) (H2 : Hp) (s2 : Shared), Vals vs us → Vals zs ws → Inv X pins τ H2 s2 → G vs zs H2 → wpAny (model X.prog X.w) X.A (PySem.call f (first ++ us) (ks.zip ws)) (EP X pins τ Q) X.xe s2) :
    wpAny (model X.prog X.w) X.A (callWith pos f first (backTo pos (starEach es X.env)) (backToKw pos (keywordEach kws X.env))) (EP X pins τ Q) X.xe s0 := by
  have nilR : ∀ {R' : List V → Hp → Prop} {H' : Hp} {r : Sl → SH → R (List PV)}, (r = fun _ s => .ok [] s) → TAi P.B X.K r τ H' R' → R' [] H' := fun {R' H' r} e h => by
    subst e
    obtain ⟨m, s, σ, st, k⟩ := h
    exact Kon.valA st.mt k rfl
  cases es with
  | nil =>
    have key' := nilR (hes rfl) key
    cases kws with
    | nil =>
      have key2 := nilR (hk0 rfl) key'
      refine PySem.W.callWith_K0 I.kIn hk ?_
      have := fin [] [] [] [] H s0 .nil .nil I key2
      rw [List.zip_nil_right] at this
      exact this
    | cons kw kws =>
      refine PySem.W.callWith_KW0 (h₀ := X.base) I.ok.mod.kin hk hall ?_ (by rw [hnn]; rfl)
      refine thn (hkw.run pos pins s0 τ H _ I key') fun ws s2 ⟨zs, H2, I2, rz, q2⟩ => ⟨I2.kIn, ?_⟩
      rw [hks]
      exact fin [] ws [] zs H2 s2 .nil rz I2 q2
  | cons e es =>
    cases kws with
    | nil =>
      refine PySem.W.callWith_K (h₀ := X.base) I.ok.mod.kin hk (thn (ha.run pos pins s0 τ H _ I key) fun us s1 ⟨vs, H1, I1, r, q⟩ => ⟨I1.kIn, ?_⟩) (star_plain (plain_cons hp).1) (star_any (plain_cons hp).2)
      have := fin us [] vs [] H1 s1 r .nil I1 (nilR (hk0 rfl) q)
      rw [List.zip_nil_right] at this
      exact this
    | cons kw kws =>
      refine PySem.W.callWith_KW (h₀ := X.base) I.ok.mod.kin hk hall (thn (ha.run pos pins s0 τ H _ I key) fun us s1 ⟨vs, H1, I1, r, q⟩ => ?_) (by rw [star_any hp, hnn]; rfl) (star_plain (plain_cons hp).1)
      refine thn (hkw.run pos pins s1 τ H1 _ I1 q) fun ws s2 ⟨zs, H2, I2, rz, q2⟩ => ⟨I2.kIn, ?_⟩
      rw [hks]
      exact fin us ws vs zs H2 s2 r rz I2 q2
/-- f(..) -/
theorem se_fn {f : Nat} {ks : List Str} {perm : List Nat} (CO : CallOk P X.prog X.w X.K X.mg X.base k call) (hr : Room k X.A) (hb : BindOk P X.K f es.length ks perm) (hg : Gl X x) (hm : X.mg x = some (.ref (P.fa f))) (hk : PySem.W.keepIn X.K (.ref (P.fa f)) = true)
    (ha : SA P.B X es rs) (hkw : SK P.B X kws rk) (hp : plainArgs es = true) (hall : (backToKw pos (keywordEach kws X.env)).all (·.1.isSome) = true) (hks : (backToKw pos (keywordEach kws X.env)).filterMap (·.1) = ks)
    (hnn : (backToKw pos (keywordEach kws X.env)).any (·.1.isNone) = false) (hdb : (x == ("__debug__" : Str)) = false) (hes : es = [] → rs = fun _ s => .ok [] s) (hk0 : kws = [] → rk = fun _ s => .ok [] s)
    (hlen : ∀ σ s vs s', rs σ s = .ok vs s' → vs.length = es.length) (hlen2 : ∀ σ s vs s', rk σ s = .ok vs s' → vs.length = ks.length) :
    SE P.B X (.Call (.Name x p) es kws pos) (fun σ s => (rs σ s).bind fun vs s => (rk σ s).bind fun ws s => callV P.G call f (vs ++ ws) perm s) := by
  refine ⟨fun pins s0 τ H Q I h => ?_⟩
  obtain ⟨m, s, σ, st, kon⟩ := h
  refine wpAny_Call_Name_kw (ld_glob I hg hm ?_ hdb)
  refine callWith_gen (first := []) (G := fun vs zs H2 => vs.length = es.length ∧ zs.length = ks.length ∧ ∃ m2 s2 ps, Match P.B X.K m2 s2 H2 ∧ RVs X.K m2 s2.length H2 ps (vs ++ zs) ∧ Kon P.B X.K (RV X.K) (callV P.G call f ps perm s2) m2 s2 H2 Q) hk ha hkw hp hall hks hnn hes hk0 I ?_ ?_
  · obtain ⟨vs, s1, e1, k1⟩ := kon.bind st.mt
    refine ⟨m, s, σ, st, vs, s1, e1, fun m1 H1 xs g1 rvs => ?_⟩
    have st1 := st.go g1
    obtain ⟨ws, s2, e2, k2⟩ := (k1 m1 H1 g1).bind st1.mt
    exact ⟨m1, s1, σ, st1, ws, s2, e2, fun m2 H2 zs g2 rzs => ⟨by rw [rvs.length]; exact hlen σ s vs s1 e1, by rw [rzs.length]; exact hlen2 σ s1 ws s2 e2, m2, s2, vs ++ ws, g2.mt, RVs.append (RVs.le (g2.le st1.mt) _ _ rvs) rzs, k2 m2 H2 g2⟩⟩
  · intro us ws vs zs H2 s2 r rz I2 ⟨hl, hz, m2, t2, ps, M2, rp, k2⟩
    have hu : us.length = es.length := by rw [← r.length]; exact hl
    rw [← hu] at hb
    exact run_def (F := default) CO hr hb I2 r rz hz M2 rp k2
/-- C(..) -/
theorem se_mk {c : Nat} {Cl : ClI} {ks : List Str} {perm : List Nat} (OK : PkOk P X.K X.mg) (CO : CallOk P X.prog X.w X.K X.mg X.base k call) (hr : Room (k + 1) X.A) (hC : P.G.cls[c]? = some Cl) (hb : BindOk P X.K Cl.init (es.length + 1) ks perm) (hg : Gl X x) (hm : X.mg x = some (.ref (P.B.ca c)))
    (ha : SA P.B X es rs) (hkw : SK P.B X kws rk) (hp : plainArgs es = true) (hall : (backToKw pos (keywordEach kws X.env)).all (·.1.isSome) = true) (hks : (backToKw pos (keywordEach kws X.env)).filterMap (·.1) = ks)
    (hnn : (backToKw pos (keywordEach kws X.env)).any (·.1.isNone) = false) (hdb : (x == ("__debug__" : Str)) = false) (hes : es = [] → rs = fun _ s => .ok [] s) (hk0 : kws = [] → rk = fun _ s => .ok [] s)
    (hlen : ∀ σ s vs s', rs σ s = .ok vs s' → vs.length = es.length) (hlen2 : ∀ σ s vs s', rk σ s = .ok vs s' → vs.length = ks.length) :
    SE P.B X (.Call (.Name x p) es kws pos) (fun σ s => (rs σ s).bind fun vs s => (rk σ s).bind fun ws s => mkV P.G call c (vs ++ ws) perm s) := by
  have OC := OK.clo c Cl hC
  refine ⟨fun pins s0 τ H Q I h => ?_⟩
  obtain ⟨m, s, σ, st, kon⟩ := h
  refine wpAny_Call_Name_kw (ld_glob I hg hm ?_ hdb)
  refine callWith_gen (first := []) (G := fun vs zs H2 => vs.length = es.length ∧ zs.length = ks.length ∧ ∃ m2 s2 ps, Match P.B X.K m2 s2 H2 ∧ RVs X.K m2 s2.length H2 ps (vs ++ zs) ∧ Kon P.B X.K (RV X.K) (mkV P.G call c ps perm s2) m2 s2 H2 Q) OC.mkk.kp ha hkw hp hall hks hnn hes hk0 I ?_ ?_
  · obtain ⟨vs, s1, e1, k1⟩ := kon.bind st.mt
    refine ⟨m, s, σ, st, vs, s1, e1, fun m1 H1 xs g1 rvs => ?_⟩
    have st1 := st.go g1
    obtain ⟨ws, s2, e2, k2⟩ := (k1 m1 H1 g1).bind st1.mt
    exact ⟨m1, s1, σ, st1, ws, s2, e2, fun m2 H2 zs g2 rzs => ⟨by rw [rvs.length]; exact hlen σ s vs s1 e1, by rw [rzs.length]; exact hlen2 σ s1 ws s2 e2, m2, s2, vs ++ ws, g2.mt, RVs.append (RVs.le (g2.le st1.mt) _ _ rvs) rzs, k2 m2 H2 g2⟩⟩
  · intro us ws vs zs H2 s2 r rz I2 ⟨hl, hz, m2, t2, ps, M2, rp, k2⟩
    have hu : us.length = es.length := by rw [← r.length]; exact hl
    unfold mkV at k2
    rw [hC] at k2
    dsimp only at k2
    cases ew : ps.mapM (fzV t2 (fun _ => true) 16) with
    | none => rw [ew] at k2; exact (Kon.bad k2).elim
    | some ws' =>
    rw [ew] at k2
    dsimp only at k2
    obtain ⟨full, e, k3⟩ := Kon.liftO k2
    obtain ⟨F, ds, dvs, hF, rd, rdf, hbb⟩ := hb
    unfold padA at e
    rw [hF] at e
    dsimp only at e
    split at e
    · rename_i hlf
      cases e
      -- the new instance
      have nx : H2 (s2.heap.objs.size + 1) = none := I2.hok.fresh (Nat.le_succ _)
      have nd : H2 s2.heap.objs.size = none := I2.hok.fresh (Nat.le_refl _)
      have ne : s2.heap.objs.size ≠ s2.heap.objs.size + 1 := Nat.ne_of_lt (Nat.lt_succ_self _)
      have I3 := Inv.made (C := P.B.ca c) I2
      let H3 : Hp := upd (upd H2 s2.heap.objs.size (.own (s2.heap.objs.size + 1))) (s2.heap.objs.size + 1) (.ins (P.B.ca c) s2.heap.objs.size [])
      have hkp : ∀ a o, H2 a = some o → H3 a = some o := fun a o e => by
        show upd (upd H2 _ _) _ _ a = _
        rw [upd_ne (ne_of_none e nx), upd_ne (ne_of_none e nd)]; exact e
      have hcn : c < P.B.nc := by rw [OK.nc]; exact (List.getElem?_eq_some_iff.mp hC).1
      let T : Addr → Prop := fun a => PV.pureL ps = false ∧ ∃ i vs, i < t2.length ∧ a = m2 i ∧ H2 a = some (.lst vs)
      let mc : Mp := ⟨fun _ => s2.heap.objs.size + 1, fun a => m2.fz a ∨ T a, m2.nb⟩
      have Mc : Match P.B X.K mc [Cell.ins c []] H3 := by
        refine ⟨M2.nb, fun i hi z => ?_, fun a z => ?_, fun i j hi hj _ => by simp at hi hj; omega, fun i d ed => ?_⟩
        · rcases z with z | ⟨_, i, vs, _, _, z⟩
          · obtain ⟨o, eo⟩ := M2.fx _ z
            rw [show H2 (s2.heap.objs.size + 1) = none from nx] at eo; cases eo
          · rw [show H2 (s2.heap.objs.size + 1) = none from nx] at z; cases z
        · rcases z with z | ⟨_, i, vs, _, _, z⟩
          · obtain ⟨o, eo⟩ := M2.fx _ z
            exact ⟨o, hkp _ _ eo⟩
          · exact ⟨_, hkp _ _ z⟩
        · cases i with
          | succ i => simp at ed
          | zero =>
            simp at ed
            subst ed
            exact ⟨_, [], upd_same, hcn, rfl⟩
      have D : Side P.B X.K m2 t2 H2 T mc [Cell.ins c []] H3 0 := by
        refine ⟨M2, hkp, fun a ⟨_, i, vs, h1, h2, h3⟩ => ⟨i, vs, h1, h2, h3⟩, Mc, fun a h => h, fun a h => .inl h, fun a h => .inr h, Nat.zero_le _, fun k hk => by omega, fun k h1 h2 => ?_⟩
        exact nx
      have lw : ws'.length = ps.length := mapM_len ew
      have lp : ps.length = es.length + ks.length := by rw [← rp.length, List.length_append, hl, hz]
      have rw' : RVs X.K mc [Cell.ins c []].length H3 ws' (vs ++ zs) := by
        by_cases hp : PV.pureL ps = true
        · rw [fzL_pure hp] at ew
          cases ew
          exact D.inPL ps _ hp rp
        · refine D.inL (fun v w x e r => D.inV (fun i vs _ hi eH => ?_) 16 v w x e r) ps ws' _ ew rp
          exact ⟨by simpa using hp, i, vs, hi, rfl, eH⟩
      have rp2 : RVs X.K mc [Cell.ins c []].length H3 (PV.ref 0 :: ws') (V.ref (s2.heap.objs.size + 1) :: (vs ++ zs)) :=
        ⟨_, _, rfl, ⟨by simp, rfl⟩, rw'⟩
      have rf : RVs X.K mc [Cell.ins c []].length H3 (ordL perm (PV.ref 0 :: ws') ++ dfl F (ws'.length + 1)) (ordL perm (V.ref (s2.heap.objs.size + 1) :: (vs ++ zs)) ++ dvs) := by
        have e9 : ws'.length + 1 = es.length + 1 + ks.length := by omega
        rw [e9]
        exact RVs.append rp2.ord (rdf _ _ _)
      have rV : Vals (ordL perm (V.ref (s2.heap.objs.size + 1) :: (vs ++ zs)) ++ dvs) (ordL perm ((Value.ref (s2.heap.objs.size + 1) :: us) ++ ws) ++ ds) := (Vals.ord (Vals.append (Paired.cons (show RelV (V.ref (s2.heap.objs.size + 1)) (Value.ref (s2.heap.objs.size + 1)) from rfl) r) rz)).append rd
      have hsp : spI P.B X.K call Cl.init F.np (ordL perm (V.ref (s2.heap.objs.size + 1) :: (vs ++ zs)) ++ dvs) H3 (fun v H4 => v = .non ∧ Q (.ref (s2.heap.objs.size + 1)) H4) E0 := by
        refine ⟨_, _, _, Mc, rf, hlf, ?_⟩
        obtain ⟨w, s', e5, k5⟩ := k3
        cases e6 : call Cl.init (ordL perm (PV.ref 0 :: ws') ++ dfl F (ws'.length + 1)) [Cell.ins c []] with
        | bad w => rw [e6] at e5; cases e5
        | ok v s6 =>
          rw [e6] at e5
          cases v with
          | non =>
            simp only [R.bind, sealO] at e5
            split at e5
            · rename_i c' fs
              split at e5
              · rename_i hs
                obtain ⟨rfl, h2, h3, h4⟩ := hs
                cases e5
                refine ⟨.non, _, rfl, fun m7 H7 x g7 rx => ⟨rx, ?_⟩⟩
                have A : AtOk m2 t2 m7 [Cell.ins c' fs] 0 t2.length m2.at_ := ⟨Nat.le_refl _, fun _ _ => rfl, fun i h1 h2 => by omega⟩
                have e0 : m7 0 = s2.heap.objs.size + 1 := g7.ag 0 (by simp)
                obtain ⟨dx, gs, eH, _, rg⟩ := g7.mt.cl 0 _ rfl
                obtain ⟨a1, a2, a3⟩ := RVf.split rg
                refine k5 _ H7 _ (D.go0 g7) ⟨s2.heap.objs.size + 1, dx, gs, rfl, ⟨.inr ⟨0, Nat.le_refl _, by simp, e0.symm⟩, fun i hi q => ?_⟩, ?_, ?_, ?_, ?_, ?_⟩
                · exact D.f1 g7 (Nat.zero_le 0) (by simp) hi (e0.trans q)
                · rw [← e0]
                  show H7 (m7 0) = some (.ins (m2.nb.ca c') dx gs)
                  rw [M2.nb]; exact eH
                · show c' < m2.nb.nc
                  rw [M2.nb]; exact hcn
                · show gs.map (·.1) = (m2.nb.fl c').map (nmOf m2.nb)
                  rw [M2.nb, OK.fl c' Cl hC, ← h2]; exact a1
                · show ∀ k ∈ m2.nb.fl c', k < m2.nb.nm.length
                  rw [M2.nb, OK.fl c' Cl hC, ← h2]; exact a2
                · refine D.pureL g7 A _ _ h3 ?_ a3
                  by_cases hp : PV.pureL ps = true
                  · exact .inl fun a ⟨z, _⟩ => by rw [hp] at z; cases z
                  · exact .inr (h4 (by simpa using hp))
              · cases e5
            · cases e5
          | _ => simp only [R.bind] at e5; cases e5
      have hb2 := hbb { s2 with heap := (s2.heap.push PySem.W.emptyDict).push (PySem.W.instObj (P.B.ca c) s2.heap.objs.size) } (Value.ref (s2.heap.objs.size + 1) :: us) ws I3.kIn (by rw [List.length_cons, hu]) (by rw [← rz.length]; exact hz)
      refine wpAny_call (make_map (f := P.fa Cl.init) I2.kIn OC.mkk.makes OC.mkk.init (beq_iff_eq.mp OC.mkk.fn) (codeAny_mono ((CO Cl.init F hF).run _ X.stack _ _ ⟨Value.ref (s2.heap.objs.size + 1) :: us, ks.zip ws⟩ _ _ _ E0 (hr.make (P.B.ca c) us (ks.zip ws)) (I3.env0.make (P.B.ca c) us (ks.zip ws)) hb2 rV hsp) fun q s' hq' => ?_))
      cases q with
      | error e => exact hq'.elim
      | ok fl =>
        cases fl with
        | ret u =>
          obtain ⟨v, H', I4, rv, ev, q3⟩ := I3.after hq'
          subst ev
          exact ⟨rv, ⟨V.ref (s2.heap.objs.size + 1), H', I4, rfl, q3⟩⟩
        | next => exact False.elim hq'
        | brk => exact False.elim hq'
        | cont => exact False.elim hq'
    · cases e
end
end CS
end CSCall_

section CSNe_
set_option maxRecDepth 100000
set_option maxHeartbeats 1000000
namespace CS
open PySem L2
section
variable {M : Model} {prog : Program} {w : World} {A : Around} {E : Value → Shared → Prop} {s : Shared} {K : PySem.W.Frag} {x C f : Addr} {ox : Obj} {od : Option Obj} {us : List Value} {u : Value}
theorem ne_bound {R : Option Value → Shared → Prop} (kin : K.In s.heap) (J : PySem.W.InstAt s.heap x ox C od) (fnd : PySem.W.findIn K (.ref C) "__ne__" = some (some (.builtin "object.__ne__")))
    (go : wpAny M A (PySem.call (.builtin "object.__ne__") (.ref x :: us)) (fun v => R (some v)) E s) : wpAny M A (callSpecialIfBound? (.ref x) "__ne__" us) R E s := by
  have last : wpAny M A (PySem.call (.builtin "object.__ne__") ([.ref x] ++ us) >>= fun v => pure (some v)) R E s :=
    wpAny_bind (wpAny_mono go (fun v t z => wpAny_pure z) fun _ _ z => z)
  simp only [callSpecialIfBound?, bindSpecialIfBound?]
  refine wpAny_holding (wpAny_bind (wpAny_bind (wpAny_bind (J.type.here ((PySem.W.looks_findIn kin fnd).here (wpAny_bind (wpAny_askSetting (wpAny_ite ?_))))))))
  split
  · exact wpAny_bind (wpAny_of_eq (F.cmp_object.ne.bind _) (wpAny_pure last))
  · exact wpAny_tryCatch (wpAny_bind (wpAny_of_eq (F.cmp_object.ne.bind _) (wpAny_pure last)))
/-- what the negation gives back -/
def NotBack (Q : Value → Shared → Prop) (v : Value) (t : Shared) : Prop := ∃ b, v = .bool b ∧ Q (.bool (!b)) t
theorem ne_entry {Q : Fin → Shared → Prop} (kin : K.In s.heap) (J : PySem.W.InstAt s.heap x ox C od) (hs : PySem.W.findIn K (.ref C) "__eq__" = some (some (.ref f))) (hf : PySem.W.isFn K (.ref f) = true) (hu : A.units < cLine)
    (go : wpAny (model prog w) A (PySem.call (.ref f) [.ref x, u]) (NotBack fun v t => Q (.done (.ret v)) t) E s) : wpAny (model prog w) A (Builtin.«object.__ne__» ⟨[.ref x, u], []⟩) Q E s := by
  unfold Builtin.«object.__ne__»
  repeat (first | with_reducible refine wpAny_cRoomFor hu ?_ | with_reducible refine PySem.W.ifBound_K kin J hs hf (wpAny_mono go ?_ fun _ _ z => z) | wp_step)
  rintro v t ⟨b, rfl, hq⟩
  exact wpAny_bind (wpAny_truthy_bool (wpAny_pure hq))
theorem ne_call {Q : Value → Shared → Prop} (kin : K.In s.heap) (J : PySem.W.InstAt s.heap x ox C od) (hm : PySem.W.mroIn K C (.type "object") = some true) (hs : PySem.W.findIn K (.ref C) "__eq__" = some (some (.ref f))) (hf : PySem.W.isFn K (.ref f) = true) (hu : A.units + 1 < cLine)
    (go : wpAny (model prog w) A.in1 (PySem.call (.ref f) [.ref x, u]) (NotBack Q) E s) : wpAny (model prog w) A (PySem.call (.builtin "object.__ne__") [.ref x, u]) Q E s := by
  refine wpAny_call (codeAny_call_builtin F.cmp_object.ne.plain F.cmpEntry_ne (PySem.W.check_slot F.cmpKind_ne F.cmpSplit_ne (J.type.andThen (PySem.W.looks_mroIn kin hm)) (F.cmpArgs_ne _ _) (ne_entry (A := A.in1) kin J hs hf hu ?_)))
  exact go
theorem ne_rich {y tb : Value} {Q : Value → Shared → Prop} (hu : A.units + 1 < cLine) (kin : K.In s.heap) (J : PySem.W.InstAt s.heap x ox C od) (hb : PySem.W.Looks (model prog w) s.heap (typeOf y) tb) (hn' : PySem.W.notFirst K C tb = true) (hm : PySem.W.mroIn K C (.type "object") = some true)
    (hn : PySem.W.findIn K (.ref C) "__ne__" = some (some (.builtin "object.__ne__"))) (hs : PySem.W.findIn K (.ref C) "__eq__" = some (some (.ref f))) (hf : PySem.W.isFn K (.ref f) = true)
    (go : wpAny (model prog w) A.in1 (PySem.call (.ref f) [.ref x, y]) (NotBack Q) E s) : wpAny (model prog w) A (richCompare .NotEq (.ref x) y) Q E s := by
  have one : wpAny (model prog w) A (tryCompare (.ref x) "__ne__" y) (fun r t => ∃ b, r = some (.bool b) ∧ Q (.bool b) t) E s := by
    unfold tryCompare
    have two : wpAny (model prog w) A (PySem.call (.builtin "object.__ne__") [.ref x, y]) (fun v t => ∃ b, v = .bool b ∧ Q (.bool b) t) E s :=
      ne_call kin J hm hs hf hu (wpAny_mono go (fun v t z => by
        obtain ⟨b, hb, q⟩ := z
        exact ⟨b, hb, !b, rfl, q⟩) fun _ _ z => z)
    refine wpAny_bind (ne_bound kin J hn (wpAny_mono two (fun v t z => ?_) fun _ _ z => z))
    obtain ⟨b, rfl, q⟩ := z
    exact wpAny_pure ⟨b, rfl, q⟩
  unfold richCompare
  simp only [cmpInfo_NotEq, oneThing_ref]
  refine wpAny_holding (wpAny_bind (wpAny_cRoomFor (Nat.lt_of_succ_lt hu) ?_))
  refine wpAny_bind (J.type.here (wpAny_bind (hb.here ?_)))
  split
  · rename_i q
    have e : PySem.W.subIn K tb (.ref C) = some false := by
      rcases Bool.or_eq_true_iff.mp hn' with e | e
      · rw [beq_iff_eq.mp e] at q; simp at q
      · exact beq_iff_eq.mp e
    refine wpAny_bind ((PySem.W.looks_subIn kin e).here ?_)
    simp only [Bool.false_eq_true, if_false]
    refine wpAny_bind (wpAny_mono one (fun r t z => ?_) fun _ _ z => z)
    obtain ⟨b, rfl, q⟩ := z
    exact wpAny_pure q
  · refine wpAny_bind (wpAny_pure ?_)
    simp only [Bool.false_eq_true, if_false]
    refine wpAny_bind (wpAny_mono one (fun r t z => ?_) fun _ _ z => z)
    obtain ⟨b, rfl, q⟩ := z
    exact wpAny_pure q
end
end CS
end CSNe_

section CSCall2_
set_option maxRecDepth 100000
set_option maxHeartbeats 1000000
namespace CS
open PySem L2
section
variable {P : Pk} {X : Cx} {call : Nat → List PV → SH → R PV} {k : Nat} {e a b : Expr} {pos : Pos} {x : Str} {ra rb : Sl → SH → R PV}

theorem BindOk.full {f : Nat} {F : FnI} {K : PySem.W.Frag} (hF : P.G.fns[f]? = some F) (h : BindOk P K f F.np [] []) (hn : (P.ps f).length = F.np) : Binds K (P.fd f) (P.ps f) [] := by
  obtain ⟨F', ds, dvs, hF', rd, rdf, hbb⟩ := h
  rw [hF] at hF'; cases hF'
  have e : dfl F (F.np + ([] : List Str).length) = [] := by unfold dfl; simp
  rw [e] at rdf
  have e2 : dvs = [] := rdf ⟨fun _ => 0, fun _ => False, P.B⟩ 0 (fun _ => none)
  subst e2
  cases rd
  intro s us hk hl
  have := hbb s us [] hk (by rw [List.append_nil] at hl; rw [hl, hn]) rfl
  rw [List.zip_nil_right, List.append_nil, List.append_nil] at this
  rw [List.append_nil]
  exact this
theorem insOf_ok {K : PySem.W.Frag} {mg : Str → Option Value} {m : Mp} {s : SH} {H : Hp} {v : PV} {x : V} {c : Nat} {fs : List (Nat × PV)} (OK : PkOk P K mg) (M : Match P.B K m s H) (h : insOf P.G s v = some (c, fs)) (r : RV K m s.length H v x) :
    ∃ a dx gs, x = .ref a ∧ H a = some (.ins (P.B.ca c) dx gs) ∧ RVf P.B K m s.length H fs gs := by
  unfold insOf at h
  split at h
  · rename_i n
    split at h
    · rename_i c' fs' hc
      cases h
      obtain ⟨dx, gs, eH, _, rf⟩ := M.cl n _ hc
      exact ⟨m n, dx, gs, r.2, eH, rf⟩
    · cases h
  · rename_i d vs
    cases h
    obtain ⟨q, dx, gs, e1, z, h1, h2, h3, h4, h5⟩ := r
    rw [M.nb] at h1 h2 h3 h4
    refine ⟨q, dx, gs, e1, h1, ?_⟩
    unfold objFs
    have hl : c < P.G.cls.length := by rw [← OK.nc]; exact h2
    have hC : P.G.cls[c]? = some P.G.cls[c] := List.getElem?_eq_getElem hl
    rw [hC]
    have e2 := OK.fl c _ hC
    rw [e2] at h3 h4
    exact RVf.unsplit h3 h4 h5
  · cases h
theorem RVf.look {B : Nm} {K : PySem.W.Frag} {m : Mp} {n : Nat} {H : Hp} (nd : B.nm.Nodup) {j : Nat} (hj : j < B.nm.length) : ∀ {fs : List (Nat × PV)} {gs : List (Str × V)} {v : PV}, RVf B K m n H fs gs → fs.lookup j = some v → ∃ x, gs.lookup (nmOf B j) = some x ∧ RV K m n H v x
  | [], _, v, _, e => by cases e
  | (i, w) :: fs, gs, v, r, e => by
    obtain ⟨y, g2, rfl, hi, r1, r2⟩ := r
    rw [List.lookup_cons] at e ⊢
    by_cases hij : j = i
    · subst hij
      simp only [BEq.rfl] at e ⊢
      cases e
      exact ⟨y, rfl, r1⟩
    · have h1 : (j == i) = false := by simpa using hij
      rw [h1] at e
      have h2 : (nmOf B j == nmOf B i) = false := by
        rw [beq_eq_false_iff_ne]
        intro q
        unfold nmOf at q
        rw [List.getD_eq_getElem?_getD, List.getD_eq_getElem?_getD, List.getElem?_eq_getElem hj, List.getElem?_eq_getElem hi] at q
        exact hij ((List.getElem_inj nd).mp q)
      rw [h2]
      exact RVf.look nd hj r2 e
/-- o.f -/
theorem se_attr {f : Nat} {name : Str} (OK : PkOk P X.K X.mg) (CO : CallOk P X.prog X.w X.K X.mg X.base k call) (hr : Room (k + 1) X.A) (hn : nmOf P.B f = name) (he : SE P.B X e ra) (hab : attributeBase e name X.env (eval e X.env) = eval e X.env) :
    SE P.B X (.Attribute e name pos) (fun σ s => (ra σ s).bind fun x s => attrV P.G call f x s) := by
  subst hn
  refine ⟨fun pins s0 τ H Q I h => ?_⟩
  obtain ⟨m, s, σ, st, kon⟩ := h
  obtain ⟨v, s1, e1, k1⟩ := kon.bind st.mt
  -- which class
  have cls : ∃ c fs, insOf P.G s1 v = some (c, fs) := by
    have := k1 m H
    cases hi : insOf P.G s1 v with
    | some q => exact ⟨q.1, q.2, rfl⟩
    | none =>
      exfalso
      obtain ⟨w, s2, e2, _⟩ := kon
      simp only [e1, R.bind, attrV, hi] at e2
      cases e2
  obtain ⟨c, fs, hi⟩ := cls
  have hk : ∀ m1 H1, Go P.B X.K m s H m1 s1 H1 → Kon P.B X.K (RV X.K) (match propOf P.G c f with
      | some g => call g [v] s1
      | none => if fldOk P.G c f then liftO (fs.lookup f) s1 20 else .bad 20) m1 s1 H1 Q := fun m1 H1 g => by
    have := k1 m1 H1 g
    unfold attrV at this
    rw [hi] at this
    exact this
  cases hp : propOf P.G c f with
  | some g =>
    simp only [hp] at hk
    unfold propOf at hp
    obtain ⟨Cl, hC, hl⟩ := Option.bind_eq_some_iff.mp hp
    obtain ⟨F, hF, hnp, hbs, hpr⟩ := (OK.clo c Cl hC).props f g hl
    have hbb : Binds X.K (P.fd g) (P.ps g) [] := BindOk.full hF (by rw [hnp]; exact OK.bnd _ _ _ _ hbs) (OK.np g F hF)
    refine (pe_prop he (OK.clo c Cl hC).cl hpr (CO g F hF) hr hbb .nil pass0 hab).run pins s0 τ H Q I ?_
    refine ⟨m, s, σ, st, v, s1, e1, fun m1 H1 x g1 rv => ?_⟩
    obtain ⟨a, dx, gs, rfl, eH, rf⟩ := insOf_ok OK g1.mt hi rv
    exact ⟨a, dx, gs, rfl, eH, m1, s1, [v], g1.mt, RVs.one rv, hnp.symm, hk m1 H1 g1⟩
  | none =>
    simp only [hp] at hk
    refine (pe_fld he hab).run pins s0 τ H Q I ?_
    refine ⟨m, s, σ, st, v, s1, e1, fun m1 H1 x g1 rv => ?_⟩
    obtain ⟨a, dx, gs, rfl, eH, rf⟩ := insOf_ok OK g1.mt hi rv
    have kk := hk m1 H1 g1
    by_cases hf : fldOk P.G c f = true
    · rw [if_pos hf] at kk
      obtain ⟨w, e3, k3⟩ := Kon.lift1 kk
      unfold fldOk at hf
      split at hf
      · rename_i Cl hC
        obtain ⟨hfl, hna⟩ := (OK.clo c Cl hC).flds f hf
        obtain ⟨y, e4, ry⟩ := RVf.look OK.nd hfl rf e3
        exact ⟨a, P.B.ca c, dx, gs, y, rfl, eH, (OK.clo c Cl hC).cl, hna, e4, Kon.val g1.mt k3 ry⟩
      · cases hf
    · rw [if_neg hf] at kk
      exact (Kon.bad kk).elim

/-- == of an instance and a thing by the text's own method -/
def rOwnEq (P : Pk) (K : PySem.W.Frag) (call : Nat → List PV → SH → R PV) : R2 := fun x y H Q => ∃ (a dx : Addr) (fs : List (Str × V)) (c f : Nat) (Cl : ClI) (F : FnI) (ty : Value), x = .ref a ∧ H a = some (.ins (P.B.ca c) dx fs) ∧ TyX K H y ty ∧ PySem.W.notFirst K (P.B.ca c) ty = true ∧
  P.G.cls[c]? = some Cl ∧ Cl.meths.lookup 0 = some f ∧ P.G.fns[f]? = some F ∧ spI P.B K call f F.np [x, y] H Q E0
theorem op_ownEq (OK : PkOk P X.K X.mg) (CO : CallOk P X.prog X.w X.K X.mg X.base k call) (hr : Room k X.A) : OpR X (compareOp .Eq) (rOwnEq P X.K call) := by
  intro pins s τ H x y v u Q I rx ry h
  obtain ⟨a, dx, fs, c, f, Cl, F, ty, rfl, ha, hty, hnf, hC, hl, hF, hsp⟩ := h
  cases rx
  obtain ⟨mA, J, _⟩ := ins_get I.hok ha
  obtain ⟨od, J, _⟩ := J.look
  obtain ⟨PP, KX, hP, _⟩ := kit_of I ry hty
  have L := KX.ty (model X.prog X.w) s.heap I.kIn hP
  obtain ⟨m, hFr⟩ := I.fr
  have M := ((OK.clo c Cl hC).meths 0 f hl).2
  rw [OK.d0] at M
  show wpAny (model X.prog X.w) X.A (richCompare .Eq (.ref a) u) (EP X pins τ Q) X.xe s
  refine PySem.W.cmp_K (op := .Eq) (tb := ty) hr.units0 hFr I.ok.mod.kin J L hnf M.at_ M.fn ?_
  obtain ⟨F', hF', hnp, hbs⟩ := OK.eqb c Cl f hC hl
  rw [hF] at hF'; cases hF'
  have hbb : Binds X.K (P.fd f) (P.ps f) [] := BindOk.full hF (by rw [hnp]; exact OK.bnd _ _ _ _ hbs) (OK.np f F hF)
  refine thn (run_fn (us := [.ref a, u]) (CO f F hF) hr hbb .nil pass0 I (Paired.cons (show RelV (V.ref a) (Value.ref a) from rfl) (Paired.cons ry .nil)) hsp) fun w s' hw => ?_
  obtain ⟨z, H', I', rz, q⟩ := hw
  cases z with
  | non => cases rz; exact ⟨.non, H', I', rfl, q⟩
  | bl t => cases rz; exact ⟨.bl t, H', I', rfl, q⟩
  | int t => obtain ⟨t', rfl⟩ := rz; exact ⟨.int t, H', I', ⟨t', rfl⟩, q⟩
  | str t => obtain ⟨t', rfl⟩ := rz; exact ⟨.str t, H', I', ⟨t', rfl⟩, q⟩
  | byt t => obtain ⟨t', rfl⟩ := rz; exact ⟨.byt t, H', I', ⟨t', rfl⟩, q⟩
  | flt t => obtain ⟨t', rfl⟩ := rz; exact ⟨.flt t, H', I', ⟨t', rfl⟩, q⟩
  | ref t => cases rz; exact ⟨.ref t, H', I', rfl, q⟩
  | ty t => cases rz; exact ⟨.ty t, H', I', rfl, q⟩
/-- a call from within a built-in -/
theorem run_in1 {f : Addr} {fd : FuncData} {ps : List Str} {sp : Sp} {pins : List (Addr × Obj)} {τ : St} {H : Hp} {s : Shared} {Q : VK} {us : List Value} {vs : List V} (F : FnOk X.prog X.w X.K X.mg X.base CX0 k f fd ps sp) (hr : Room (k + 1) X.A) (hb : Binds X.K fd ps [])
    (I : Inv X pins τ H s) (r : Vals vs us) (h : sp vs H Q E0) : wpAny (model X.prog X.w) X.A.in1 (PySem.call (.ref f) us) (EP X pins τ Q) X.xe s := by
  have hl : us.length = ps.length := by rw [← r.length]; exact F.len _ _ _ _ h
  have hb2 := hb s us I.kIn (by rw [List.append_nil]; exact hl)
  rw [List.append_nil] at hb2
  refine wpAny_call (codeAny_mono (F.run X.A.in1 X.stack s H ⟨us, []⟩ us vs Q E0 hr.in1 I.env0.in1 hb2 r h) fun z t hq => ?_)
  cases z with
  | error e => exact pass0 pins τ H s e t I hq
  | ok fl =>
    cases fl with
    | ret u => exact I.after hq
    | _ => exact False.elim hq
/-- != of two instances, by the text's own == -/
def rOwnNe (P : Pk) (K : PySem.W.Frag) (call : Nat → List PV → SH → R PV) : R2 := fun x y H Q => rOwnEq P K call x y H fun v H1 => ∃ b, v = .bl b ∧ Q (.bl (!b)) H1
theorem op_ownNe (OK : PkOk P X.K X.mg) (CO : CallOk P X.prog X.w X.K X.mg X.base k call) (hr : Room (k + 1) X.A) : OpR X (compareOp .NotEq) (rOwnNe P X.K call) := by
  intro pins s τ H x y v u Q I rx ry h
  obtain ⟨a, dx, fs, c, f, Cl, F, ty, rfl, ha, hty, hnf, hC, hl, hF, hsp⟩ := h
  cases rx
  obtain ⟨mA, J, _⟩ := ins_get I.hok ha
  obtain ⟨od, J, _⟩ := J.look
  obtain ⟨PP, KX, hP, _⟩ := kit_of I ry hty
  have L := KX.ty (model X.prog X.w) s.heap I.kIn hP
  have M := ((OK.clo c Cl hC).meths 0 f hl).2
  rw [OK.d0] at M
  obtain ⟨F', hF', hnp, hbs⟩ := OK.eqb c Cl f hC hl
  rw [hF] at hF'; cases hF'
  have hbb : Binds X.K (P.fd f) (P.ps f) [] := BindOk.full hF (by rw [hnp]; exact OK.bnd _ _ _ _ hbs) (OK.np f F hF)
  show wpAny (model X.prog X.w) X.A (richCompare .NotEq (.ref a) u) (EP X pins τ Q) X.xe s
  refine ne_rich (by have := hr.un; omega) I.kIn J L hnf (OK.clo c Cl hC).ob (OK.clo c Cl hC).ne M.at_ M.fn ?_
  refine wpAny_mono (run_in1 (us := [.ref a, u]) (CO f F hF) hr hbb I (Paired.cons (show RelV (V.ref a) (Value.ref a) from rfl) (Paired.cons ry .nil)) hsp) (fun w s' hw => ?_) fun _ _ z => z
  obtain ⟨z, H', I', rz, b, rfl, q⟩ := hw
  cases rz
  exact ⟨b, rfl, .bl (!b), H', I', rfl, q⟩
/-- comparisons -/
theorem se_cmpV {op : CmpOp} {o : CmpO} (OK : PkOk P X.K X.mg) (KO : KitOk P.B X.K) (CO : CallOk P X.prog X.w X.K X.mg X.base k call) (hr1 : Room (k + 1) X.A) (ho : cmpOf op = some o) (ha : SE P.B X a ra) (hb : SE P.B X b rb) (hm : behindInMarks op b = false) :
    PEC P.B X (.Compare a [op] [b] pos) (fun σ s => (ra σ s).bind fun x s => (rb σ s).bind fun y s => cmpV P.G call o x y s) := by
  have hr := hr1.mono (Nat.le_succ k)
  have plain : ∀ {m : Mp} {s : SH} {H : Hp} {v w : PV} {x y : V} {Q : VK} {wd : Nat}, Match P.B X.K m s H → RV X.K m s.length H v x → RV X.K m s.length H w y → Kon P.B X.K (RV X.K) (liftO ((cmpP s o v w).map .bl) s wd) m s H Q → cmpR X.K op x y H Q := fun {m s H v w x y Q wd} M rx ry kk => by
    obtain ⟨u, e2, k5⟩ := Kon.lift1 kk
    obtain ⟨d2, e3, rfl⟩ := Option.map_eq_some_iff.mp e2
    exact kon_cmp ho M rx ry e3 (Kon.val M k5 rfl)
  by_cases hop : op = .Eq
  · subst hop
    cases ho
    refine se_cmp (r := fun x y H Q => cmpR X.K .Eq x y H Q ∨ rOwnEq P X.K call x y H Q) (fun x y s => cmpV P.G call .eq x y s) ha hb (OpR.or (op_cmpR hr.units .Eq) (op_ownEq OK CO hr)) hm fun m s H v w x y Q M rx ry kk => ?_
    unfold cmpV at kk
    split at kk
    · rename_i c fs hi
      right
      simp only [eqOwn] at kk
      split at kk
      · rename_i f hf
        unfold methOf at hf
        obtain ⟨Cl, hC, hl⟩ := Option.bind_eq_some_iff.mp hf
        obtain ⟨a, dx, us, rfl, eH, rf⟩ := insOf_ok OK M hi rx
        obtain ⟨F, hF, hnp, hbs⟩ := OK.eqb c Cl f hC hl
        have hcn : c < P.B.nc := by rw [OK.nc]; exact (List.getElem?_eq_some_iff.mp hC).1
        obtain ⟨ty, hty, hnf⟩ := right_ty KO hcn M ry
        exact ⟨a, dx, us, c, f, Cl, F, ty, rfl, eH, hty, hnf, hC, hl, hF, m, s, [v, w], M, RVs.two rx ry, hnp.symm, kk⟩
      · exact (Kon.bad kk).elim
    · exact .inl (plain M rx ry kk)
  · by_cases hon : op = .NotEq
    · subst hon
      cases ho
      refine se_cmp (r := fun x y H Q => cmpR X.K .NotEq x y H Q ∨ rOwnNe P X.K call x y H Q) (fun x y s => cmpV P.G call .ne x y s) ha hb (OpR.or (op_cmpR hr.units .NotEq) (op_ownNe OK CO hr1)) hm fun m s H v w x y Q M rx ry kk => ?_
      unfold cmpV at kk
      split at kk
      · rename_i c fs hi
        right
        simp only [eqOwn] at kk
        split at kk
        · rename_i f hf
          unfold methOf at hf
          obtain ⟨Cl, hC, hl⟩ := Option.bind_eq_some_iff.mp hf
          obtain ⟨a, dx, us, rfl, eH, rf⟩ := insOf_ok OK M hi rx
          obtain ⟨F, hF, hnp, hbs⟩ := OK.eqb c Cl f hC hl
          have hcn : c < P.B.nc := by rw [OK.nc]; exact (List.getElem?_eq_some_iff.mp hC).1
          obtain ⟨ty, hty, hnf⟩ := right_ty KO hcn M ry
          refine ⟨a, dx, us, c, f, Cl, F, ty, rfl, eH, hty, hnf, hC, hl, hF, m, s, [v, w], M, RVs.two rx ry, hnp.symm, ?_⟩
          obtain ⟨z, s1, e1, k1⟩ := kk.bind M
          refine ⟨z, s1, e1, fun m1 H1 x1 g1 r1 => ?_⟩
          have kz := k1 m1 H1 g1
          unfold notV at kz
          split at kz
          · rename_i b
            cases r1
            exact ⟨b, rfl, Kon.val g1.mt kz rfl⟩
          · exact (Kon.bad kz).elim
        · exact (Kon.bad kk).elim
      · exact .inl (plain M rx ry kk)
    · refine se_cmp (r := cmpR X.K op) (fun x y s => cmpV P.G call o x y s) ha hb (op_cmpR hr.units op) hm fun m s H v w x y Q M rx ry kk => ?_
      unfold cmpV at kk
      split at kk
      · split at kk
        · cases op <;> first | exact absurd rfl hop | cases ho
        · cases op <;> first | exact absurd rfl hon | cases ho
        · exact plain M rx ry kk
      · exact plain M rx ry kk
end
end CS
end CSCall2_

section CSMeth_
set_option maxRecDepth 100000
set_option maxHeartbeats 1000000
namespace CS
open PySem L2
section
variable {P : Pk} {X : Cx} {call : Nat → List PV → SH → R PV} {k : Nat} {es : List Expr} {pos p apos : Pos} {rs : Sl → SH → R (List PV)}
theorem RVf.no {B : Nm} {K : PySem.W.Frag} {m : Mp} {n : Nat} {H : Hp} (nd : B.nm.Nodup) {j : Nat} (hj : j < B.nm.length) : ∀ {fs : List (Nat × PV)} {gs : List (Str × V)}, RVf B K m n H fs gs → (fs.lookup j).isNone = true → gs.lookup (nmOf B j) = none
  | [], gs, r, _ => by rw [show gs = [] from r]; rfl
  | (i, w) :: fs, gs, r, e => by
    obtain ⟨y, g2, rfl, hi, _, r2⟩ := r
    rw [List.lookup_cons] at e ⊢
    by_cases hij : j = i
    · subst hij; simp at e
    · have h1 : (j == i) = false := by simpa using hij
      rw [h1] at e
      have h2 : (nmOf B j == nmOf B i) = false := by
        rw [beq_eq_false_iff_ne]
        intro q
        unfold nmOf at q
        rw [List.getD_eq_getElem?_getD, List.getD_eq_getElem?_getD, List.getElem?_eq_getElem hj, List.getElem?_eq_getElem hi] at q
        exact hij ((List.getElem_inj nd).mp q)
      rw [h2]
      exact RVf.no nd hj r2 e
theorem few_ok0 {es : List Expr} {env : Env} {cpos : Pos} (hp : plainArgs es = true) (hl : es.length < 30) : methodCallForm (es.length + ([] : List Keyword).length) (backTo cpos (starEach es env)) (backToKw cpos (keywordEach [] env)) = true := by
  have h1 : (backTo cpos (starEach es env)).all (fun x => !x.1) = true := by
    have := star_any (pos := cpos) (env := env) hp
    rw [List.all_eq_true]
    intro y hy
    have hn : (backTo cpos (starEach es env)).any (·.1) = false := this
    rw [List.any_eq_false] at hn
    have := hn y hy
    simpa using this
  unfold methodCallForm
  rw [h1]
  have h2 : decide (es.length + ([] : List Keyword).length + (if (backToKw cpos (keywordEach [] env)).isEmpty then 0 else 1) < 30) = true := by
    show decide (es.length + 0 + 0 < 30) = true
    simp; omega
  rw [h2]
  rfl
theorem meth_late {o : Expr} {name : Str} {prog : Program} {w : World} {A : Around} {E : Value → Shared → Prop} {env : Env} {s : Shared} {Q : Value → Shared → Prop} (hbase : attributeBase o name env (eval o env) = eval o env)
    (hform : methodCallForm (es.length + ([] : List Keyword).length) (backTo pos (starEach es env)) (backToKw pos (keywordEach [] env)) = true) (hline : (apos.endLine == pos.line) = true)
    (h : wpAny (model prog w) A (eval o env) (fun ov s₁ => wpAny (model prog w) A (getMethod ov name (do return (← importBound o env).getD true)) (fun fx s₂ => wpAny (model prog w) A (callWith pos fx.1 fx.2 (backTo pos (starEach es env)) (backToKw pos (keywordEach [] env))) Q E s₂) E s₁) E s) :
    wpAny (model prog w) A (eval (.Call (.Attribute o name apos) es [] pos) env) Q E s := by
  have hpos : methodCallPos true o env apos pos = pure pos := by unfold methodCallPos; simp [hline]
  rw [arm_eval_Call, hbase]
  refine wpAny_bind (wpAny_mono h (fun ov s₁ h₁ => ?_) fun _ _ e => e)
  refine wpAny_bind (wpAny_standAt ?_)
  unfold methodCall
  rw [hform]
  refine wpAny_bind (wpAny_holding (wpAny_mono h₁ (fun fx s₂ h₂ => ?_) fun _ _ e => e))
  obtain ⟨f, first⟩ := fx
  exact wpAny_bind (wpAny_of_eq hpos h₂)
/-- o.m(..) of an own class -/
theorem se_meth {o : Expr} {ro : Sl → SH → R PV} {m : Nat} {name : Str} (OK : PkOk P X.K X.mg) (CO : CallOk P X.prog X.w X.K X.mg X.base k call) (hr : Room k X.A) (hn : nmOf P.B m = name)
    (hb : ∀ (c : Nat) (Cl : ClI) (f : Nat), P.G.cls[c]? = some Cl → Cl.meths.lookup m = some f → BindOk P X.K f (es.length + 1) [] [])
    (ho : SE P.B X o ro) (ha : SA P.B X es rs) (hp : plainArgs es = true) (hes : es = [] → rs = fun _ s => .ok [] s)
    (hlen : ∀ σ s vs s', rs σ s = .ok vs s' → vs.length = es.length)
    (hbase : attributeBase o name X.env (eval o X.env) = eval o X.env) (hline : (apos.endLine == pos.line) = true) (h30 : es.length < 30) :
    SE P.B X (.Call (.Attribute o name apos) es [] pos) (fun σ s => (ro σ s).bind fun x s => (liftO (methFind P.G m x s) s 24).bind fun f s => (rs σ s).bind fun vs s => callV P.G call f (x :: vs) [] s) := by
  subst hn
  refine ⟨fun pins s0 τ H Q I h => ?_⟩
  obtain ⟨mm, s, σ, st, kon⟩ := h
  have key : TEi P.B X.K ro τ H fun x H1 => ∃ (c : Nat) (Cl : ClI) (f : Nat) (a dx : Addr) (fs : List (Str × V)), x = .ref a ∧ P.G.cls[c]? = some Cl ∧ Cl.meths.lookup m = some f ∧ H1 a = some (.ins (P.B.ca c) dx fs) ∧ fs.lookup (nmOf P.B m) = none ∧
      TAi P.B X.K rs τ H1 fun vs H2 => TAi P.B X.K (fun _ s => R.ok [] s) τ H2 fun zs H3 => zs = [] ∧ vs.length = es.length ∧ ∃ m2 s2 ps, Match P.B X.K m2 s2 H3 ∧ RVs X.K m2 s2.length H3 ps (x :: vs) ∧ Kon P.B X.K (RV X.K) (callV P.G call f ps [] s2) m2 s2 H3 Q := by
    refine TEi.bind (f := fun σ x s => (liftO (methFind P.G m x s) s 24).bind fun f s => (rs σ s).bind fun vs s => callV P.G call f (x :: vs) [] s) st kon fun v s1 m1 H1 x g1 st1 rv k1 => ?_
    obtain ⟨f, e, k2⟩ := Kon.liftO k1
    unfold methFind at e
    split at e
    · rename_i c fs hi
      split at e
      · rename_i hno
        unfold methOf at e
        obtain ⟨Cl, e1, e2⟩ := Option.bind_eq_some_iff.mp e
        obtain ⟨a, dx, gs, rfl, eH, rf⟩ := insOf_ok OK st1.mt hi rv
        have hm : m < P.B.nm.length := ((OK.clo c Cl e1).meths m f e2).1
        refine ⟨c, Cl, f, a, dx, gs, rfl, e1, e2, eH, RVf.no OK.nd hm rf hno, ?_⟩
        obtain ⟨vs, s2, e3, k3⟩ := k2.bind st1.mt
        exact ⟨m1, s1, σ, st1, vs, s2, e3, fun m2 H2 xs g2 rvs => ⟨m2, s2, σ, st1.go g2, [], s2, rfl, fun m5 H5 zs g5 rz => ⟨rz, by rw [rvs.length]; exact hlen σ s1 vs s2 e3, m5, s2, v :: vs, g5.mt, ⟨_, _, rfl, RV.le ((g2.trans st1.mt g5).le st1.mt) _ _ rv, RVs.le (g5.le g2.mt) _ _ rvs⟩, k3 m5 H5 (g2.trans st1.mt g5)⟩⟩⟩
      · cases e
    · cases e
  refine meth_late hbase (few_ok0 hp h30) hline (thn (ho.run pins s0 τ H _ I key) fun u s1 ⟨x, H1, I1, rx, c, Cl, f, a, dx, fs, ex, hC, hl, ea, l, q⟩ => ?_)
  subst ex
  obtain rfl : u = Value.ref a := rx
  have M := (OK.clo c Cl hC).meths m f hl
  refine getmeth_ok I1 ea (OK.clo c Cl hC).cl M.2 l ?_
  refine callWith_gen (first := [.ref a]) (kws := []) (ks := []) (G := fun vs zs H3 => zs = [] ∧ vs.length = es.length ∧ ∃ m2 s2 ps, Match P.B X.K m2 s2 H3 ∧ RVs X.K m2 s2.length H3 ps (V.ref a :: vs) ∧ Kon P.B X.K (RV X.K) (callV P.G call f ps [] s2) m2 s2 H3 Q) M.2.kp ha sk_nil hp rfl rfl rfl hes (fun _ => rfl) I1 q ?_
  intro us ws vs zs H2 s2 r rz I2 ⟨hz, hl2, m2, t2, ps, M2, rp, k2⟩
  subst hz
  cases rz
  have hu : us.length = es.length := by rw [← r.length]; exact hl2
  have hb' := hb c Cl f hC hl
  rw [show es.length + 1 = (Value.ref a :: us).length by rw [List.length_cons, hu]] at hb'
  exact run_def (us := Value.ref a :: us) (vs := V.ref a :: vs) (zs := []) (F := default) CO hr hb' I2 (.cons rfl r) .nil rfl M2 (by rw [List.append_nil]; exact rp) k2
end
section
variable {P : Pk} {X : Cx} {call : Nat → List PV → SH → R PV} {k : Nat} {a b : Expr} {pos : Pos} {ra rb : Sl → SH → R PV}
/-- the class of an own thing is in the table -/
theorem insOf_cls {K : PySem.W.Frag} {mg : Str → Option Value} {m : Mp} {s : SH} {H : Hp} {v : PV} {x : V} {c : Nat} {fs : List (Nat × PV)} (OK : PkOk P K mg) (M : Match P.B K m s H) (h : insOf P.G s v = some (c, fs)) (r : RV K m s.length H v x) : c < P.G.cls.length := by
  rw [← OK.nc]
  unfold insOf at h
  split at h
  · rename_i n
    split at h
    · rename_i c' fs' hc
      cases h
      obtain ⟨dx, gs, eH, hcn, rf⟩ := M.cl n _ hc
      exact hcn
    · cases h
  · rename_i d vs
    cases h
    obtain ⟨q, dx, gs, e1, z, h1, h2, h3, h4, h5⟩ := r
    rw [M.nb] at h2
    exact h2
  · cases h
/-- an own operator of two values -/
def rOwnBin (P : Pk) (K : PySem.W.Frag) (call : Nat → List PV → SH → R PV) (o : BinO) : R2 := fun x y H Q => ∃ (a dx : Addr) (fs : List (Str × V)) (c f : Nat) (Cl : ClI) (F : FnI), x = .ref a ∧ H a = some (.ins (P.B.ca c) dx fs) ∧
  P.G.cls[c]? = some Cl ∧ (binId o).bind (fun i => Cl.meths.lookup i) = some f ∧ P.G.fns[f]? = some F ∧ ((∃ b dy gs, y = .ref b ∧ H b = some (.ins (P.B.ca c) dy gs)) ∨ (∃ i, y = .int i) ∨ ∃ b d dy gs Dl, y = .ref b ∧ H b = some (.ins (P.B.ca d) dy gs) ∧ P.G.cls[d]? = some Dl ∧ (binId o).bind (fun i => Dl.meths.lookup i) = none) ∧ spI P.B K call f F.np [x, y] H Q E0
theorem op_ownBin {op : Operator} {o : BinO} (OK : PkOk P X.K X.mg) (CO : CallOk P X.prog X.w X.K X.mg X.base k call) (hr : Room k X.A) (ho : binOf op = some o) : OpR X (binaryOp op) (rOwnBin P X.K call o) := by
  intro pins s τ H x y v u Q I rx ry h
  obtain ⟨a, dx, fs, c, f, Cl, F, rfl, ha, hC, hl, hF, hy, hsp⟩ := h
  cases rx
  obtain ⟨mA, J, _⟩ := ins_get I.hok ha
  obtain ⟨od, J, _⟩ := J.look
  obtain ⟨m, hFr⟩ := I.fr
  have B := OK.bop c Cl op o f hC ho hl
  obtain ⟨F', hF', hnp, hbs⟩ := B.F
  rw [hF] at hF'; cases hF'
  have hbb : Binds X.K (P.fd f) (P.ps f) [] := BindOk.full hF (by rw [hnp]; exact OK.bnd _ _ _ _ hbs) (OK.np f F hF)
  have run : wpAny (model X.prog X.w) X.A (PySem.call (.ref (P.fa f)) [.ref a, u]) (PySem.W.CmpBack (EP X pins τ Q)) X.xe s := by
    refine thn (run_fn (us := [.ref a, u]) (CO f F hF) hr hbb .nil pass0 I (Paired.cons (show RelV (V.ref a) (Value.ref a) from rfl) (Paired.cons ry .nil)) hsp) fun w s' hw => ?_
    obtain ⟨z, H', I', rz, q⟩ := hw
    cases z with
    | non => cases rz; exact ⟨.non, H', I', rfl, q⟩
    | bl t => cases rz; exact ⟨.bl t, H', I', rfl, q⟩
    | int t => obtain ⟨t', rfl⟩ := rz; exact ⟨.int t, H', I', ⟨t', rfl⟩, q⟩
    | str t => obtain ⟨t', rfl⟩ := rz; exact ⟨.str t, H', I', ⟨t', rfl⟩, q⟩
    | byt t => obtain ⟨t', rfl⟩ := rz; exact ⟨.byt t, H', I', ⟨t', rfl⟩, q⟩
    | flt t => obtain ⟨t', rfl⟩ := rz; exact ⟨.flt t, H', I', ⟨t', rfl⟩, q⟩
    | ref t => cases rz; exact ⟨.ref t, H', I', rfl, q⟩
    | ty t => cases rz; exact ⟨.ty t, H', I', rfl, q⟩
  rcases hy with ⟨b, dy, gs, rfl, hb⟩ | ⟨i, rfl⟩ | ⟨b, d, dy, gs, Dl, rfl, hb, hD, hno⟩
  · cases ry
    obtain ⟨mB, J', _⟩ := ins_get I.hok hb
    obtain ⟨od', J', _⟩ := J'.look
    exact PySem.W.binop_K hFr I.ok.mod.kin J J'.type B.sf B.at_ B.fn run
  · obtain ⟨t, rfl⟩ := ry
    obtain ⟨rc, r1, r2⟩ := B.rf
    obtain ⟨fo, ro, i1, i2⟩ := B.it
    exact PySem.W.ksp_binT (T := "int") hFr I.ok.mod.kin J rfl B.sf B.at_ B.fn r1 r2 i1 i2 B.sub run
  · cases ry
    obtain ⟨mB, J', _⟩ := ins_get I.hok hb
    obtain ⟨od', J', _⟩ := J'.look
    obtain ⟨n1, n2⟩ := B.oth d Dl o hD ho hno
    exact ksp_binR hFr I.ok.mod.kin J J'.type n1 B.sf B.at_ B.fn n2 run
/-- a binary operator, the text's own one or not -/
theorem se_binV {z : Bool} {op : Operator} {o : BinO} {r : R2} (OK : PkOk P X.K X.mg) (CO : CallOk P X.prog X.w X.K X.mg X.base k call) (hr : Room k X.A) (ho : binOf op = some o) (ha : SE P.B X a ra) (hb : SE P.B X b rb) (hp : OpR X (binaryOp op) r)
    (h : ∀ m s H v w x y Q, Match P.B X.K m s H → RV X.K m s.length H v x → RV X.K m s.length H w y → Kon P.B X.K (RV X.K) (effO z (binP s o v w) s 11) m s H Q → r x y H Q) :
    SE P.B X (.BinOp a op b pos) (fun σ s => (ra σ s).bind fun x s => (rb σ s).bind fun y s => binV P.G call z o x y s) := by
  refine se_op (f := fun x _ => pure x) (r := fun x y H Q => r x y H Q ∨ rOwnBin P X.K call o x y H Q) (fun x y s => binV P.G call z o x y s) ha hb (OpR.or hp (op_ownBin OK CO hr ho)) fun m s H v w x y Q M rx ry kk => ?_
  unfold binV at kk
  split at kk
  · rename_i c fs hi
    right
    obtain ⟨a, dx, gs, rfl, eH, rf⟩ := insOf_ok OK M hi rx
    split at kk
    · rename_i f hf
      obtain ⟨id, e1, e2⟩ := Option.bind_eq_some_iff.mp hf
      unfold methOf at e2
      obtain ⟨Cl, hC, hl⟩ := Option.bind_eq_some_iff.mp e2
      have hl' : (binId o).bind (fun i => Cl.meths.lookup i) = some f := by rw [e1]; exact hl
      obtain ⟨F, hF, hnp, _⟩ := (OK.bop c Cl op o f hC ho hl').F
      split at kk
      · rename_i hro
        refine ⟨a, dx, gs, c, f, Cl, F, rfl, eH, hC, hl', hF, ?_, m, s, [v, w], M, RVs.two rx ry, hnp.symm, kk⟩
        unfold rightOk at hro
        split at hro
        · cases ry; exact .inr (.inl ⟨_, rfl⟩)
        · split at hro
          · rename_i d fs' hj
            obtain ⟨b, dy, gs', e3, eH2, _⟩ := insOf_ok OK M hj ry
            by_cases hcd : c = d
            · subst hcd
              exact .inl ⟨b, dy, gs', e3, eH2⟩
            · rw [decide_eq_false hcd, Bool.false_or] at hro
              have hd : d < P.G.cls.length := insOf_cls OK M hj ry
              have hD : P.G.cls[d]? = some P.G.cls[d] := List.getElem?_eq_getElem hd
              refine .inr (.inr ⟨b, d, dy, gs', P.G.cls[d], e3, eH2, hD, ?_⟩)
              have h3 := Option.isNone_iff_eq_none.mp hro
              rw [Option.bind_eq_none_iff] at h3 ⊢
              intro i hi
              have h4 := h3 i hi
              unfold methOf at h4
              rw [hD] at h4
              exact h4
          · cases hro
      · exact (Kon.bad kk).elim
    · exact (Kon.bad kk).elim
  · exact .inl (h m s H v w x y Q M rx ry kk)
/-- no plain meaning -/
theorem op_none {op : Operator} : OpR X (binaryOp op) (fun _ _ _ _ => False) := fun pins s τ H x y v u Q I rx ry h => h.elim
end
end CS
end CSMeth_

section CSGet_
set_option maxRecDepth 100000
set_option maxHeartbeats 1000000
namespace CS
open PySem L2
open PyProof.Rows (subscriptTail Subscript_)
section
variable {P : Pk} {X : Cx} {call : Nat → List PV → SH → R PV} {k : Nat} {a b : Expr} {pos : Pos} {ra rb : Sl → SH → R PV} {z : Bool}
/-- x[i] by an own method -/
def rIxOwn (P : Pk) (K : PySem.W.Frag) (call : Nat → List PV → SH → R PV) : R2 := fun x y H Q => ∃ (a dx : Addr) (fs : List (Str × V)) (c f : Nat) (Cl : ClI) (F : FnI), x = .ref a ∧ H a = some (.ins (P.B.ca c) dx fs) ∧ P.G.cls[c]? = some Cl ∧ Cl.meths.lookup 9 = some f ∧ P.G.fns[f]? = some F ∧ spI P.B K call f F.np [x, y] H Q E0
def SubOwn (b : Expr) : Prop := ∀ o i, subscripted b true o i = runValue (.builtin "lifetime.subscript" ⟨[o, i], []⟩)
theorem ix_own (OK : PkOk P X.K X.mg) (CO : CallOk P X.prog X.w X.K X.mg X.base k call) (hr : Room (k + 1) X.A) {value slice : Expr} {pins : List (Addr × Obj)} {s : Shared} {τ : St} {H : Hp} {x y : V} {v u : Value} {Q : VK} (I : Inv X pins τ H s) (rx : RelV x v) (ry : RelV y u) (h : rIxOwn P X.K call x y H Q) (hs : SubOwn slice) :
    wpAny (model X.prog X.w) X.A (subscriptTail value slice v u) (EP X pins τ Q) X.xe s := by
  obtain ⟨a, dx, fs, c, f, Cl, F, rfl, ha, hC, hl, hF, hsp⟩ := h
  cases rx
  obtain ⟨mA, J, _⟩ := ins_get I.hok ha
  obtain ⟨od, J, _⟩ := J.look
  obtain ⟨m, hFr⟩ := I.fr
  have M := OK.gi c Cl f hC hl
  obtain ⟨F', hF', hnp, hbs⟩ := M.F
  rw [hF] at hF'; cases hF'
  have hbb : Binds X.K (P.fd f) (P.ps f) [] := BindOk.full hF (by rw [hnp]; exact OK.bnd _ _ _ _ hbs) (OK.np f F hF)
  exact PySem.W.sub_K hFr I.ok.mod.kin J M.at_ M.fi M.fn (run_in1 (us := [.ref a, u]) (CO f F hF) hr hbb I (Paired.cons (show RelV (V.ref a) (Value.ref a) from rfl) (Paired.cons ry .nil)) hsp) (hs _ _)
theorem pe_ixO {r : R2} {ta tb : TE} (OK : PkOk P X.K X.mg) (CO : CallOk P X.prog X.w X.K X.mg X.base k call) (hr : Room (k + 1) X.A) (hi : IxR X r) (ha : PE X a ta) (hb : PE X b tb) (hs : PlainIx b) (ho : SubOwn b) : PE X (.Subscript a b pos) (tOp (fun x y H Q => r x y H Q ∨ rIxOwn P X.K call x y H Q) ta tb) := by
  refine ⟨fun pins s σ H Q I h => ?_⟩
  exact Subscript_ (binT ha hb I h fun v u s2 x y H2 I2 rx ry q => by
    rcases q with q | q
    · exact hi a b pins s2 σ H2 x y v u Q I2 rx ry q (hs _ _)
    · exact ix_own OK CO hr I2 rx ry q ho)
theorem kon_ixO {m : Mp} {s : SH} {H : Hp} {v w : PV} {x y : V} {Q : VK} (OK : PkOk P X.K X.mg) (M : Match P.B X.K m s H) (rx : RV X.K m s.length H v x) (ry : RV X.K m s.length H w y)
    (kk : Kon P.B X.K (RV X.K) (ownP P.G call .ix [v, w] s (effO z (prim s .ix [v, w]) s 31)) m s H Q) : rIx X.K x y H Q ∨ rIxOwn P X.K call x y H Q := by
  simp only [ownP] at kk
  split at kk
  · rename_i c fs hi
    right
    split at kk
    · rename_i f hf
      unfold methOf at hf
      obtain ⟨Cl, hC, hl⟩ := Option.bind_eq_some_iff.mp hf
      obtain ⟨a, dx, us, rfl, eH, rf⟩ := insOf_ok OK M hi rx
      obtain ⟨F, hF, hnp, hbs⟩ := (OK.gi c Cl f hC hl).F
      exact ⟨a, dx, us, c, f, Cl, F, rfl, eH, hC, hl, hF, m, s, [v, w], M, RVs.two rx ry, hnp.symm, kk⟩
    · exact (Kon.bad kk).elim
  · exact .inl (kon_ix M rx ry kk)
theorem se_ixO (OK : PkOk P X.K X.mg) (CO : CallOk P X.prog X.w X.K X.mg X.base k call) (hr : Room (k + 1) X.A) (ha : SE P.B X a ra) (hb : SE P.B X b rb) (hs : PlainIx b) (ho : SubOwn b) :
    SE P.B X (.Subscript a b pos) (fun σ s => ((ra σ s).bind fun x s => ((rb σ s).bind fun y s => (R.ok [] s).bind fun xs s => R.ok (y :: xs) s).bind fun xs s => R.ok (x :: xs) s).bind fun vs s => ownP P.G call .ix vs s (effO z (prim s .ix vs) s 31)) := by
  have : SE P.B X (.Subscript a b pos) (fun σ s => (ra σ s).bind fun x s => (rb σ s).bind fun y s => ownP P.G call .ix [x, y] s (effO z (prim s .ix [x, y]) s 31)) :=
    (pe_ixO OK CO hr ix_seq ha hb hs ho).imp fun τ H Q ⟨m, s, σ, st, k⟩ =>
      TEi.bind (f := fun σ x s => (rb σ s).bind fun y s => ownP P.G call .ix [x, y] s (effO z (prim s .ix [x, y]) s 31)) st k fun v s1 m1 H1 x g1 st1 rv k1 =>
        TEi.bind (f := fun σ y s => ownP P.G call .ix [v, y] s (effO z (prim s .ix [v, y]) s 31)) st1 k1 fun w s2 m2 H2 y g2 st2 rw k2 => kon_ixO OK st2.mt (RV.le (g2.le st1.mt) _ _ rv) rw k2
  refine this.imp fun τ H Q h => ?_
  obtain ⟨m, s, σ, st, k⟩ := h
  refine ⟨m, s, σ, st, ?_⟩
  cases e : ra σ s with
  | bad w => simp only [e, R.bind] at k; exact (Kon.bad k).elim
  | ok v s1 =>
    simp only [e, R.bind] at k ⊢
    cases e2 : rb σ s1 with
    | bad w => simp only [e2] at k; exact (Kon.bad k).elim
    | ok w s2 => simp only [e2] at k ⊢; exact k
/-- len(x) by an own method -/
def rLenOwn (P : Pk) (K : PySem.W.Frag) (call : Nat → List PV → SH → R PV) : List V → Hp → VK → Prop := fun xs H Q => ∃ (a dx : Addr) (fs : List (Str × V)) (c f : Nat) (Cl : ClI) (F : FnI), xs = [.ref a] ∧ H a = some (.ins (P.B.ca c) dx fs) ∧ P.G.cls[c]? = some Cl ∧ Cl.meths.lookup 8 = some f ∧ P.G.fns[f]? = some F ∧
  spI P.B K call f F.np [.ref a] H (fun v H1 => ∃ i : Int, v = .int i ∧ 0 ≤ i ∧ i < 2 ^ 63 ∧ Q (.int i) H1) E0
theorem call_lenO (OK : PkOk P X.K X.mg) (CO : CallOk P X.prog X.w X.K X.mg X.base k call) (hr : Room (k + 1) X.A) : CallR X (.builtin "len") (rLenOwn P X.K call) := by
  intro pins s σ H xs us Q I r h
  obtain ⟨a, dx, fs, c, f, Cl, F, rfl, ha, hC, hl, hF, hsp⟩ := h
  obtain ⟨u, rfl, rx⟩ := vals1 r
  cases rx
  obtain ⟨mA, J, _⟩ := ins_get I.hok ha
  obtain ⟨od, J, _⟩ := J.look
  obtain ⟨m, hFr⟩ := I.fr
  have M := OK.ln c Cl f hC hl
  obtain ⟨F', hF', hnp, hbs⟩ := M.F
  rw [hF] at hF'; cases hF'
  have hbb : Binds X.K (P.fd f) (P.ps f) [] := BindOk.full hF (by rw [hnp]; exact OK.bnd _ _ _ _ hbs) (OK.np f F hF)
  refine PySem.W.len_K hFr I.ok.mod.kin J M.at_ M.fn (wpAny_mono (run_in1 (us := [.ref a]) (CO f F hF) hr hbb I (Paired.cons (show RelV (V.ref a) (Value.ref a) from rfl) .nil) hsp) (fun v s' hv => ?_) fun _ _ z => z)
  obtain ⟨z, H', I', rz, i, rfl, h0, h1, q⟩ := hv
  obtain ⟨t, rfl⟩ := rz
  exact ⟨⟨h0, h1⟩, .int i, H', I'.tok _, ⟨_, rfl⟩, q⟩
theorem kon_lenO {m : Mp} {s : SH} {H : Hp} {vs : List PV} {xs : List V} {Q : VK} (OK : PkOk P X.K X.mg) (M : Match P.B X.K m s H) (r : RVs X.K m s.length H vs xs)
    (kk : Kon P.B X.K (RV X.K) (ownP P.G call .len vs s (effO z (prim s .len vs) s 31)) m s H Q) : rLen X.K xs H Q ∨ rLenOwn P X.K call xs H Q := by
  match vs, r, kk with
  | [], r, kk => exact .inl (kon_len (z := z) M r kk)
  | _ :: _ :: _, r, kk => exact .inl (kon_len (z := z) M r kk)
  | [v], r, kk =>
    simp only [ownP] at kk
    split at kk
    · rename_i c fs hi
      right
      split at kk
      · rename_i f hf
        unfold methOf at hf
        obtain ⟨Cl, hC, hl⟩ := Option.bind_eq_some_iff.mp hf
        obtain ⟨x, rfl, rx⟩ := rv1 r
        obtain ⟨a, dx, us, rfl, eH, rf⟩ := insOf_ok OK M hi rx
        obtain ⟨F, hF, hnp, hbs⟩ := (OK.ln c Cl f hC hl).F
        refine ⟨a, dx, us, c, f, Cl, F, rfl, eH, hC, hl, hF, m, s, [v], M, RVs.one rx, hnp.symm, ?_⟩
        obtain ⟨y, s1, e1, k1⟩ := kk.bind M
        refine ⟨y, s1, e1, fun m1 H1 x1 g1 r1 => ?_⟩
        have kz := k1 m1 H1 g1
        unfold lenB at kz
        split at kz
        · rename_i i
          split at kz
          · rename_i h0
            split at kz
            · rename_i h1
              cases r1
              have h2 := (lim63_iff.mp h1).2
              exact ⟨i, rfl, h0, by omega, Kon.val g1.mt kz rfl⟩
            · exact (Kon.bad kz).elim
          · exact (Kon.bad kz).elim
        · exact (Kon.bad kz).elim
      · exact (Kon.bad kk).elim
    · exact .inl (kon_len (z := z) M r kk)
end
end CS
end CSGet_

section CSDic_
set_option maxRecDepth 100000
set_option maxHeartbeats 1000000
namespace CS
open PySem L2
/-- a table of the top: its entries -/
def DicAt (K : PySem.W.Frag) (w : World) (mg : Str → Option Value) (x : Str) (kvs : List (Str × PV)) : Prop :=
  ∃ d es n, mg x = some (.ref d) ∧ KDict K w d es n ∧ (∀ k v, kvs.lookup k = some v → ∃ u y, PySem.W.nsIn K d k = some (some u) ∧ RelV y u ∧ ∀ m n H, RV K m n H v y) ∧ ∀ k, kvs.lookup k = none → PySem.W.nsIn K d k = some none
def DicOk (P : Pk) (K : PySem.W.Frag) (w : World) (mg : Str → Option Value) : Prop := ∀ x kvs, P.C.ds.lookup x = some kvs → DicAt K w mg x kvs
section
variable {P : Pk} {X : Cx} {call : Nat → List PV → SH → R PV} {k : Nat} {a b : Expr} {pos p : Pos} {ra rb : Sl → SH → R PV} {x : Str} {kvs : List (Str × PV)}
/-- k in T, k not in T -/
theorem se_din {op : CmpOp} {neg : Bool} (D : DicAt X.K X.w X.mg x kvs) (hg : Gl X x) (hdb : (x == ("__debug__" : Str)) = false) (ho : negOf op = some neg) (ha : SE P.B X a ra) :
    PEC P.B X (.Compare a [op] [.Name x p] pos) (fun σ s => (ra σ s).bind fun v s => liftO ((asS v).map fun k => .bl (xor neg (kvs.lookup k).isSome)) s 29) := by
  obtain ⟨d, es, n, hm, KD, h1, h2⟩ := D
  have hb : PE X (.Name x p) (tC (.ref d)) := pe_glob hg hm rfl hdb
  have key : ∀ {r : R2}, (∀ (H : Hp) (Q : VK) (z : Str) (rr : Option Value), PySem.W.nsIn X.K d z = some rr → Q (.bl (xor neg rr.isSome)) H → r (.str z) (.ref d) H Q) → ∀ τ H Q, TEi P.B X.K (fun σ s => (ra σ s).bind fun v s => liftO ((asS v).map fun k => .bl (xor neg (kvs.lookup k).isSome)) s 29) τ H Q → tOp r (TEi P.B X.K ra) (tC (.ref d)) τ H Q := fun {r} hr τ H Q ⟨m, s, σ, st, kk⟩ => by
    refine TEi.bind (f := fun σ v s => liftO ((asS v).map fun k => PV.bl (xor neg (kvs.lookup k).isSome)) s 29) st kk fun v s1 m1 H1 y g1 st1 rv k1 => ?_
    obtain ⟨u, e, k2⟩ := Kon.lift1 k1
    obtain ⟨z, e1, rfl⟩ := Option.map_eq_some_iff.mp e
    cases v with
    | str z' =>
      have e1 : z' = z := Option.some.inj e1
      subst e1
      cases rv
      cases hl : kvs.lookup z' with
      | none =>
        rw [hl] at k2
        exact hr H1 Q z' none (h2 z' hl) (Kon.val st1.mt k2 rfl)
      | some w =>
        rw [hl] at k2
        obtain ⟨u, y, e2, _, _⟩ := h1 z' w hl
        exact hr H1 Q z' (some u) e2 (Kon.val st1.mt k2 rfl)
    | _ => cases e1
  cases op <;> cases ho
  · exact pec (pe_cmpR (op_in_kd KD) ha hb rfl) (pt_cmpR (op_in_kd KD) ha hb rfl) (key fun H Q z rr e q => ⟨z, rr, rfl, rfl, e, by simpa using q⟩)
  · exact pec (pe_cmpR (op_notIn_kd KD) ha hb rfl) (pt_cmpR (op_notIn_kd KD) ha hb rfl) (key fun H Q z rr e q => ⟨z, rr, rfl, rfl, e, by simpa using q⟩)
/-- T[k] -/
theorem se_dget (D : DicAt X.K X.w X.mg x kvs) (hg : Gl X x) (hdb : (x == ("__debug__" : Str)) = false) (hb : SE P.B X b rb) (hs : PlainIx b) :
    SE P.B X (.Subscript (.Name x p) b pos) (fun σ s => (rb σ s).bind fun v s => liftO ((asS v).bind fun k => kvs.lookup k) s 28) := by
  obtain ⟨d, es, n, hm, KD, h1, h2⟩ := D
  have ha : PE X (.Name x p) (tC (.ref d)) := pe_glob hg hm rfl hdb
  refine (pe_ix ix_kdict ha hb hs).imp fun τ H Q ⟨m, s, σ, st, kk⟩ => ?_
  show TEi P.B X.K rb τ H fun y H2 => rIxD X.K X.w (.ref d) y H2 Q
  refine TEi.bind (f := fun σ v s => liftO ((asS v).bind fun k => kvs.lookup k) s 28) st kk fun v s1 m1 H1 y g1 st1 rv k1 => ?_
  obtain ⟨u, e, k2⟩ := Kon.lift1 k1
  obtain ⟨z, e1, e2⟩ := Option.bind_eq_some_iff.mp e
  cases v with
  | str z' =>
    have e1 : z' = z := Option.some.inj e1
    subst e1
    cases rv
    obtain ⟨u', y, e3, r1, r2⟩ := h1 z' u e2
    exact ⟨d, z', y, rfl, rfl, ⟨es, n, u', KD.at_, KD.lit, e3, r1⟩, Kon.val st1.mt k2 (r2 _ _ _)⟩
  | _ => cases e1
end
end CS
end CSDic_

section CSStat_
set_option maxRecDepth 100000
set_option maxHeartbeats 1000000
namespace CS
open PySem L2
section
variable {P : Pk} {X : Cx} {call : Nat → List PV → SH → R PV} {k : Nat} {es : List Expr} {pos p apos : Pos} {rs : Sl → SH → R (List PV)} {x : Str} {pins : List (Addr × Obj)} {σ : L2.St} {H : Hp} {s : Shared}
theorem getmethsm_ok {pl : Sem Bool} {C g : Addr} {m : Str} {A : Around} {E : Value → Shared → Prop} {Q : Value × List Value → Shared → Prop} (I : Inv X pins σ H s) (S : SMet X.K C m g) (h : ∀ s', Inv X pins σ H s' → Q (.ref g, []) s') : wpAny (model X.prog X.w) A (getMethod (.ref C) m pl) Q E s := by
  obtain ⟨mc, p, rest, r1, r2, r3⟩ := S.ex
  refine PySem.W.method_cls I.kIn S.ga (PySem.W.cls_bind I.kIn r1 r2 ?_)
  exact wpAny_call (PySem.W.sm_get (s := { s with toks := s.toks + 1 }) I.kIn r3 (PySem.W.handed_on rfl (h _ (I.tok _))))
/-- C.m(..), m a static method -/
theorem se_stat {C : Addr} {f : Nat} {name : Str} (CO : CallOk P X.prog X.w X.K X.mg X.base k call) (hr : Room k X.A) (hb : BindOk P X.K f es.length [] []) (hg : Gl X x) (hm : X.mg x = some (.ref C)) (S : SMet X.K C name (P.fa f)) (hdb : (x == ("__debug__" : Str)) = false)
    (ha : SA P.B X es rs) (hp : plainArgs es = true) (hes : es = [] → rs = fun _ s => .ok [] s) (hlen : ∀ σ s vs s', rs σ s = .ok vs s' → vs.length = es.length)
    (hbase : attributeBase (.Name x p) name X.env (eval (.Name x p) X.env) = eval (.Name x p) X.env) (hline : (apos.endLine == pos.line) = true) (h30 : es.length < 30) :
    SE P.B X (.Call (.Attribute (.Name x p) name apos) es [] pos) (fun σ s => (rs σ s).bind fun vs s => (R.ok [] s).bind fun ws s => callV P.G call f (vs ++ ws) [] s) := by
  refine ⟨fun pins s0 τ H Q I h => ?_⟩
  obtain ⟨m, s, σ, st, kon⟩ := h
  refine meth_late hbase (few_ok0 hp h30) hline (ld_glob I hg hm ?_ hdb)
  refine getmethsm_ok I S fun s' I' => ?_
  refine callWith_gen (first := []) (kws := []) (ks := []) (G := fun vs zs H2 => vs.length = es.length ∧ zs.length = 0 ∧ ∃ m2 s2 ps, Match P.B X.K m2 s2 H2 ∧ RVs X.K m2 s2.length H2 ps (vs ++ zs) ∧ Kon P.B X.K (RV X.K) (callV P.G call f ps [] s2) m2 s2 H2 Q) S.kp ha sk_nil hp rfl rfl rfl hes (fun _ => rfl) I' ?_ ?_
  · obtain ⟨vs, s1, e1, k1⟩ := kon.bind st.mt
    refine ⟨m, s, σ, st, vs, s1, e1, fun m1 H1 xs g1 rvs => ?_⟩
    have st1 := st.go g1
    refine ⟨m1, s1, σ, st1, [], s1, rfl, fun m2 H2 zs g2 rzs => ?_⟩
    have ez : zs = [] := rzs
    subst ez
    refine ⟨by rw [rvs.length]; exact hlen σ s vs s1 e1, rfl, m2, s1, vs ++ [], g2.mt, RVs.append (RVs.le (g2.le st1.mt) _ _ rvs) rfl, ?_⟩
    exact k1 m2 H2 (g1.trans st.mt g2)
  · intro us ws vs zs H2 s2 r rz I2 ⟨hl, hz, m2, t2, ps, M2, rp, k2⟩
    have hu : us.length = es.length := by rw [← r.length]; exact hl
    rw [← hu] at hb
    exact run_def (F := default) CO hr hb I2 r rz hz M2 rp k2
end
end CS
end CSStat_

section CSOwn_
set_option maxRecDepth 100000
set_option maxHeartbeats 1000000
namespace CS
open PySem L2 PySem.Calls
section
variable {M : Model} {A : Around} {E : Value → Shared → Prop} {s : Shared} {x : Addr} {first : List Value} {Q : Value → Shared → Prop} {pos : Pos}
/-- a call of a plain object -/
theorem callO_of {args : List (Bool × Sem Value)} {keywords : List (Option Str × Sem Value)} (hplain : (args.any (·.1) || keywords.any (·.1.isNone)) = false)
    (h : wpAny M A (evalArgs (.ref x) true args keywords) (fun a s₁ => (∃ ox : Obj, s₁.heap.get? x = some ox ∧ ox.data = .plain) ∧ wpAny M A (call (.ref x) (first ++ a.pos) a.kw) Q E s₁) E s) : wpAny M A (callWith pos (.ref x) first args keywords) Q E s := by
  unfold callWith
  refine wpAny_bind (wpAny_holding (wpAny_mono h (fun a s₁ h₁ => wpAny_bind (wpAny_standAt ?_)) fun _ _ y => y))
  obtain ⟨⟨ox, ho, hd⟩, h₂⟩ := h₁
  have L : PySem.W.Looks M s₁.heap (keeperOf (.ref x)) .caller := by
    refine (PySem.W.Looks.ld (part := none) ho).andThen ?_
    simp only [hd]
    exact .now
  simp only [hplain]
  refine wpAny_bind (L.here ?_)
  have tail : ∀ {t : Sem Value}, wpAny M A t Q E s₁ → wpAny M A (t >>= fun r => holding [r] point >>= fun _ => pure r) Q E s₁ :=
    fun ht => wpAny_bind (wpAny_mono ht (fun r s₂ hr => wpAny_bind (wpAny_holding (wpAny_point (wpAny_pure hr)))) fun _ _ y => y)
  exact tail (wpAny_operateT h₂)
end
section
variable {P : Pk} {X : Cx} {call : Nat → List PV → SH → R PV} {k : Nat} {es : List Expr} {kws : List Keyword} {pos p apos : Pos} {rs rk : Sl → SH → R (List PV)}
theorem callO_gen {a : Addr} {pins : List (Addr × Obj)} {τ : St} {H : Hp} {s0 : Shared} {Q : VK} {ks : List Str} {G : List V → List V → Hp → Prop}
    (ha : SA P.B X es rs) (hkw : SK P.B X kws rk) (hp : plainArgs es = true) (hall : (backToKw pos (keywordEach kws X.env)).all (·.1.isSome) = true) (hks : (backToKw pos (keywordEach kws X.env)).filterMap (·.1) = ks)
    (hnn : (backToKw pos (keywordEach kws X.env)).any (·.1.isNone) = false) (hes : es = [] → rs = fun _ s => .ok [] s) (hk0 : kws = [] → rk = fun _ s => .ok [] s) (I : Inv X pins τ H s0)
    (key : TAi P.B X.K rs τ H fun vs H1 => TAi P.B X.K rk τ H1 fun zs H2 => G vs zs H2)
    (fin : ∀ (us ws : List Value) (vs zs : List V) (H2 : Hp) (s2 : Shared), Vals vs us → Vals zs ws → Inv X pins τ H2 s2 → G vs zs H2 → (∃ ox : Obj, s2.heap.get? a = some ox ∧ ox.data = .plain) ∧ wpAny (model X.prog X.w) X.A (PySem.call (.ref a) us (ks.zip ws)) (EP X pins τ Q) X.xe s2) :
    wpAny (model X.prog X.w) X.A (callWith pos (.ref a) [] (backTo pos (starEach es X.env)) (backToKw pos (keywordEach kws X.env))) (EP X pins τ Q) X.xe s0 := by
  have nilR : ∀ {R' : List V → Hp → Prop} {H' : Hp} {r : Sl → SH → R (List PV)}, (r = fun _ s => .ok [] s) → TAi P.B X.K r τ H' R' → R' [] H' := fun {R' H' r} e h => by
    subst e
    obtain ⟨m, s, σ, st, k⟩ := h
    exact Kon.valA st.mt k rfl
  refine callO_of (by rw [star_any hp, hnn]; rfl) ?_
  cases es with
  | nil =>
    have key' := nilR (hes rfl) key
    cases kws with
    | nil =>
      have key2 := nilR (hk0 rfl) key'
      refine PyProof.Rows.evalArgs_nil3 ?_
      have := fin [] [] [] [] H s0 .nil .nil I key2
      rw [List.zip_nil_right] at this
      exact this
    | cons kw kws =>
      refine PyProof.Rows.evalArgs_kw2_nil hall ?_
      refine thn (hkw.run pos pins s0 τ H _ I key') fun ws s2 ⟨zs, H2, I2, rz, q2⟩ => ?_
      rw [hks]
      exact fin [] ws [] zs H2 s2 .nil rz I2 q2
  | cons e es =>
    cases kws with
    | nil =>
      rw [show starEach (e :: es) X.env = (false, eval e X.env) :: starEach es X.env from star_plain (plain_cons hp).1]
      refine evalArgs_plain ?_
      have := ha.run pos pins s0 τ H _ I key
      rw [show starEach (e :: es) X.env = (false, eval e X.env) :: starEach es X.env from star_plain (plain_cons hp).1] at this
      refine thn this fun us s1 ⟨vs, H1, I1, r, q⟩ => ?_
      have := fin us [] vs [] H1 s1 r .nil I1 (nilR (hk0 rfl) q)
      rw [List.zip_nil_right] at this
      exact this
    | cons kw kws =>
      refine PyProof.Rows.evalArgs_kw2 hall (thn (ha.run pos pins s0 τ H _ I key) fun us s1 ⟨vs, H1, I1, r, q⟩ => ?_) (star_plain (plain_cons hp).1)
      refine thn (hkw.run pos pins s1 τ H1 _ I1 q) fun ws s2 ⟨zs, H2, I2, rz, q2⟩ => ?_
      rw [hks]
      exact fin us ws vs zs H2 s2 r rz I2 q2
/-- a def runs, behind another call -/
theorem run_defC {pins : List (Addr × Obj)} {τ : St} {H : Hp} {s0 : Shared} {Q : VK} {f : Nat} {us ws : List Value} {vs zs : List V} {ks : List Str} {perm : List Nat} {m : Mp} {s : SH} {ps : List PV}
    (CO : CallOk P X.prog X.w X.K X.mg X.base k call) (hr : Room k X.A) (hb : BindOk P X.K f us.length ks perm) (I : Inv X pins τ H s0) (r : Vals vs us) (rz : Vals zs ws) (hz : zs.length = ks.length)
    (M : Match P.B X.K m s H) (rp : RVs X.K m s.length H ps (vs ++ zs)) (kon : Kon P.B X.K (RV X.K) (callV P.G call f ps perm s) m s H Q) :
    codeAny (model X.prog X.w) X.A (.call (.ref (P.fa f)) ⟨us, ks.zip ws⟩) (fun r s' => match r with | .ok (.ret v) => EP X pins τ Q v s' | .ok _ => False | .error e => X.xe e s') s0 := by
  obtain ⟨F, ds, dvs, hF, rd, rdf, hbb⟩ := hb
  obtain ⟨full, e, kk⟩ := Kon.liftO kon
  unfold padA at e
  rw [hF] at e
  dsimp only at e
  split at e
  · rename_i hl
    cases e
    have lp : ps.length = us.length + ks.length := by
      rw [← rp.length, List.length_append, r.length, hz]
    have rf : RVs X.K m s.length H (ordL perm ps ++ dfl F ps.length) (ordL perm (vs ++ zs) ++ dvs) := by
      rw [lp]
      exact RVs.append rp.ord (rdf m s.length H)
    have rV : Vals (ordL perm (vs ++ zs) ++ dvs) (ordL perm (us ++ ws) ++ ds) := (Vals.ord (r.append rz)).append rd
    have hsp : spI P.B X.K call f F.np (ordL perm (vs ++ zs) ++ dvs) H Q E0 := ⟨m, s, _, M, rf, hl, kk⟩
    refine codeAny_mono ((CO f F hF).run X.A X.stack s0 H ⟨us, ks.zip ws⟩ _ _ Q E0 hr I.env0 (hbb s0 us ws I.kIn rfl (by rw [← rz.length]; exact hz)) rV hsp) fun q s' hq => ?_
    cases q with
    | error e => exact hq.elim
    | ok fl =>
      cases fl with
      | ret u => exact I.after hq
      | next => exact False.elim hq
      | brk => exact False.elim hq
      | cont => exact False.elim hq
  · cases e
/-- a call of what is no attribute -/
theorem call_late {o : Expr} {env : Env} {M : Model} {A : Around} {E : Value → Shared → Prop} {s : Shared} {Q : Value → Shared → Prop} (hne : ∀ b n q, o ≠ .Attribute b n q)
    (h : wpAny M A (eval o env) (fun f s₁ => wpAny M A (callWith pos f [] (backTo pos (starEach es env)) (backToKw pos (keywordEach kws env))) Q E s₁) E s) : wpAny M A (eval (.Call o es kws pos) env) Q E s := by
  have e : eval (.Call o es kws pos) env = (do callWith pos (← eval o env) [] (backTo pos (starEach es env)) (backToKw pos (keywordEach kws env))) := by
    cases o <;> first | rfl | exact absurd rfl (hne _ _ _)
  rw [e]
  exact wpAny_bind h
/-- e(..) by the own __call__ -/
theorem se_callO {o : Expr} {ro : Sl → SH → R PV} {m : Nat} {ks : List Str} {perm : List Nat} (OK : PkOk P X.K X.mg) (CO : CallOk P X.prog X.w X.K X.mg X.base k call) (hr : Room k X.A) (hn : nmOf P.B m = "__call__") (hne : ∀ b n q, o ≠ .Attribute b n q)
    (hb : ∀ (c : Nat) (Cl : ClI) (f : Nat), P.G.cls[c]? = some Cl → Cl.meths.lookup m = some f → BindOk P X.K f (es.length + 1) ks perm) (hfn : ∀ (c : Nat) (Cl : ClI) (f : Nat), P.G.cls[c]? = some Cl → Cl.meths.lookup m = some f → PySem.W.fnIn X.K (P.fa f) = true)
    (ho : SE P.B X o ro) (ha : SA P.B X es rs) (hkw : SK P.B X kws rk) (hp : plainArgs es = true) (hall : (backToKw pos (keywordEach kws X.env)).all (·.1.isSome) = true) (hks : (backToKw pos (keywordEach kws X.env)).filterMap (·.1) = ks)
    (hnn : (backToKw pos (keywordEach kws X.env)).any (·.1.isNone) = false) (hes : es = [] → rs = fun _ s => .ok [] s) (hk0 : kws = [] → rk = fun _ s => .ok [] s)
    (hlen : ∀ σ s vs s', rs σ s = .ok vs s' → vs.length = es.length) (hlen2 : ∀ σ s vs s', rk σ s = .ok vs s' → vs.length = ks.length) :
    SE P.B X (.Call o es kws pos) (fun σ s => (ro σ s).bind fun x s => (rs σ s).bind fun vs s => (rk σ s).bind fun ws s => (liftO (methFind P.G m x s) s 24).bind fun f s => callV P.G call f (x :: (vs ++ ws)) perm s) := by
  refine ⟨fun pins s0 τ H Q I h => ?_⟩
  obtain ⟨mm, s, σ, st, kon⟩ := h
  have key : TEi P.B X.K ro τ H fun x H1 => ∃ a, x = V.ref a ∧
      TAi P.B X.K rs τ H1 fun vs H2 => TAi P.B X.K rk τ H2 fun zs H3 => ∃ (c : Nat) (Cl : ClI) (f : Nat) (dx : Addr) (fs : List (Str × V)), P.G.cls[c]? = some Cl ∧ Cl.meths.lookup m = some f ∧ H3 a = some (.ins (P.B.ca c) dx fs) ∧
        zs.length = ks.length ∧ vs.length = es.length ∧ ∃ m2 s2 ps, Match P.B X.K m2 s2 H3 ∧ RVs X.K m2 s2.length H3 ps ((V.ref a :: vs) ++ zs) ∧ Kon P.B X.K (RV X.K) (callV P.G call f ps perm s2) m2 s2 H3 Q := by
    refine TEi.bind (f := fun σ x s => (rs σ s).bind fun vs s => (rk σ s).bind fun ws s => (liftO (methFind P.G m x s) s 24).bind fun f s => callV P.G call f (x :: (vs ++ ws)) perm s) st kon fun v s1 m1 H1 x g1 st1 rv k1 => ?_
    obtain ⟨vs, s2, e3, k3⟩ := k1.bind st1.mt
    have hx : ∃ a, x = V.ref a := by
      obtain ⟨w1, t1, q1, _⟩ := k1
      rw [e3] at q1
      simp only [R.bind] at q1
      cases hk : rk σ s2 with
      | ok ws t2 =>
        rw [hk] at q1
        simp only [R.bind] at q1
        cases hm : methFind P.G m v t2 with
        | none => rw [hm] at q1; cases q1
        | some f =>
          unfold methFind at hm
          cases v with
          | ref n => exact ⟨_, rv.2⟩
          | obj d ws => obtain ⟨q, dx, gs, e1, _⟩ := rv; exact ⟨q, e1⟩
          | _ => cases hm
      | _ => rw [hk] at q1; cases q1
    obtain ⟨a, rfl⟩ := hx
    refine ⟨a, rfl, m1, s1, σ, st1, vs, s2, e3, fun m2 H2 xs g2 rvs => ?_⟩
    have st2 := st1.go g2
    obtain ⟨ws, s3, e4, k4⟩ := (k3 m2 H2 g2).bind st2.mt
    refine ⟨m2, s2, σ, st2, ws, s3, e4, fun m3 H3 zs g3 rzs => ?_⟩
    have k5 := k4 m3 H3 g3
    obtain ⟨f, e, k6⟩ := Kon.liftO k5
    unfold methFind at e
    split at e
    · rename_i c fs hi
      split at e
      · unfold methOf at e
        obtain ⟨Cl, e1, e2⟩ := Option.bind_eq_some_iff.mp e
        have rv3 := RV.le ((g2.trans st1.mt g3).le st1.mt) _ _ rv
        obtain ⟨a', dx, gs, ea, eH, rf⟩ := insOf_ok OK g3.mt hi rv3
        cases ea
        exact ⟨c, Cl, f, dx, gs, e1, e2, eH, by rw [rzs.length]; exact hlen2 σ s2 ws s3 e4, by rw [rvs.length]; exact hlen σ s1 vs s2 e3, m3, s3, v :: (vs ++ ws), g3.mt, ⟨_, _, rfl, rv3, RVs.append (RVs.le (g3.le st2.mt) _ _ rvs) rzs⟩, k6⟩
      · cases e
    · cases e
  refine call_late hne (thn (ho.run pins s0 τ H _ I key) fun u s1 ⟨x, H1, I1, rx, a, ex, q⟩ => ?_)
  subst ex
  obtain rfl : u = Value.ref a := rx
  refine callO_gen ha hkw hp hall hks hnn hes hk0 I1 q ?_
  intro us ws vs zs H2 s2 r rz I2 ⟨c, Cl, f, dx, fs, hC, hl, eH, hz, hl2, m2, t2, ps, M2, rp, k2⟩
  obtain ⟨mA, J, _⟩ := ins_get I2.hok eH
  obtain ⟨od, J, _⟩ := J.look
  have Mt := ((OK.clo c Cl hC).meths m f hl).2
  rw [hn] at Mt
  refine ⟨⟨_, J.at_, rfl⟩, ?_⟩
  have hu : us.length = es.length := by rw [← r.length]; exact hl2
  have hb' := hb c Cl f hC hl
  rw [show es.length + 1 = (Value.ref a :: us).length by rw [List.length_cons, hu]] at hb'
  exact wpAny_call (PySem.W.kco_code I2.kIn J rfl Mt.at_ Mt.fn (hfn c Cl f hC hl) (run_defC (us := Value.ref a :: us) (vs := V.ref a :: vs) CO hr hb' I2 (.cons rfl r) rz hz M2 rp k2))
end
end CS
end CSOwn_

section CSLoop_
set_option maxRecDepth 100000
set_option maxHeartbeats 1000000
namespace CS
open PySem L2

/-- what is walked: the plain source and the machine's iterator -/
def SrcOk (B : Nm) (K : PySem.W.Frag) (m : Mp) (s : SH) (H : Hp) (src : Src) (J : L2.It) : Prop :=
  ∀ m' s' H', Go B K m s H m' s' H' → ∀ i, (∀ v, src.at s' i = some (some v) → J.go i H' ∧ ∀ x H'', J.yld i H' x H'' → Go B K m' s' H' m' s' H'' ∧ RV K m' s'.length H'' v x) ∧ (src.at s' i = some none → J.stop i H')
def TIi (B : Nm) (K : PySem.W.Frag) (r : Sl → SH → R Src) : TI := fun τ H R' => ∃ m s σ, StOk B K m s H σ τ ∧ ∃ src s', r σ s = .ok src s' ∧ ∀ m' H' J, Go B K m s H m' s' H' → SrcOk B K m' s' H' src J → R' J H'
abbrev SI (B : Nm) (X : Cx) (tg iter : Expr) (r : Sl → SH → R Src) : Prop := PI X tg iter (TIi B X.K r)
theorem _root_.L2.PI.imp {X : Cx} {tg e : Expr} {t u : TI} (h : PI X tg e t) (i : ∀ σ H Q, u σ H Q → t σ H Q) : PI X tg e u := ⟨fun pins s σ H Q I q => h.run pins s σ H Q I (i σ H Q q)⟩
theorem _root_.L2.PG.imp {X : Cx} {tg : Expr} {t u : TG} (h : PG X tg t) (i : ∀ v σ H Q, u v σ H Q → t v σ H Q) : PG X tg u := ⟨fun pins s σ H v u' Q I r q => h.run pins s σ H v u' Q I r (i v σ H Q q)⟩

section
variable {B : Nm} {X : Cx} {tg e a b : Expr} {pos p : Pos} {ra rb : Sl → SH → R PV} {rs : Sl → SH → R (List PV)}

/-- a list as a source -/
def LSrc (B : Nm) (K : PySem.W.Frag) (m : Mp) (s : SH) (H : Hp) (src : Src) (p : Addr) : Prop := ∀ m' s' H', Go B K m s H m' s' H' → ∀ i, (∀ w, src.at s' i = some (some w) → ∃ us y, SqL K H' p us ∧ us[i]? = some y ∧ RV K m' s'.length H' w y) ∧ (src.at s' i = some none → ∃ us, SqL K H' p us ∧ us.length ≤ i)
def TSrc (B : Nm) (K : PySem.W.Frag) (m : Mp) (s : SH) (H : Hp) (src : Src) (p : Addr) : Prop := ∀ m' s' H', Go B K m s H m' s' H' → ∀ i, (∀ w, src.at s' i = some (some w) → ∃ us y, SqT K H' p us ∧ us[i]? = some y ∧ RV K m' s'.length H' w y) ∧ (src.at s' i = some none → ∃ us, SqT K H' p us ∧ us.length ≤ i)
theorem src_list {m : Mp} {s : SH} {H : Hp} {v : PV} {x : V} {xs : List PV} {src : Src} (M : Match B X.K m s H) (hl : lstOf s v = some xs) (hs : srcOf s v = some src) (r : RV X.K m s.length H v x) :
    ∃ p us, x = .ref p ∧ SqL X.K H p us ∧ LSrc B X.K m s H src p := by
  cases v with
  | scr ys =>
    cases hs
    obtain ⟨p, us, rfl, hp, rr⟩ := r
    refine ⟨p, us, rfl, hp.sq, fun m' s' H' g i => ⟨fun w e => ?_, fun e => ?_⟩⟩
    · have e : ys[i]? = some w := Option.some.inj e
      obtain ⟨y, e2, ry⟩ := (RVs.le (g.le M) _ _ rr).get e
      exact ⟨us, y, (RoL.le (g.le M) hp).sq, e2, ry⟩
    · have e : ys[i]? = none := Option.some.inj e
      exact ⟨us, (RoL.le (g.le M) hp).sq, by rw [rr.length]; exact List.getElem?_eq_none_iff.mp e⟩
  | rol ys =>
    cases hs
    obtain ⟨p, us, rfl, z, hp, rr⟩ := r
    refine ⟨p, us, rfl, SqL.of hp, fun m' s' H' g i => ⟨fun w e => ?_, fun e => ?_⟩⟩
    · have e : ys[i]? = some w := Option.some.inj e
      obtain ⟨y, e2, ry⟩ := (RVs.le (g.le M) _ _ rr).get e
      exact ⟨us, y, SqL.of ((g.le M).fz p _ z hp).2, e2, ry⟩
    · have e : ys[i]? = none := Option.some.inj e
      exact ⟨us, SqL.of ((g.le M).fz p _ z hp).2, by rw [rr.length]; exact List.getElem?_eq_none_iff.mp e⟩
  | ref n =>
    simp only [lstOf] at hl
    simp only [srcOf] at hs
    cases hc : s[n]? with
    | none => rw [hc] at hl; cases hl
    | some c =>
      rw [hc] at hl hs
      cases c with
      | ins c fs => cases hl
      | lst ys =>
        cases hs
        obtain ⟨us, eH, rr⟩ := M.cl n _ hc
        obtain ⟨hn, rfl⟩ := r
        refine ⟨m n, us, rfl, .inl (.inl eH), fun m' s' H' g i => ?_⟩
        simp only [Src.at]
        cases hc' : s'[n]? with
        | none => exact ⟨fun w e => (by cases e), fun e => (by cases e)⟩
        | some c' =>
          cases c' with
          | ins c fs => exact ⟨fun w e => (by cases e), fun e => (by cases e)⟩
          | lst zs =>
            obtain ⟨us', eH', rr'⟩ := g.mt.cl n _ hc'
            rw [g.ag n hn] at eH'
            refine ⟨fun w e => ?_, fun e => ?_⟩
            · have e : zs[i]? = some w := Option.some.inj e
              obtain ⟨y, e2, ry⟩ := rr'.get e
              exact ⟨us', y, .inl (.inl eH'), e2, ry⟩
            · have e : zs[i]? = none := Option.some.inj e
              exact ⟨us', .inl (.inl eH'), by rw [rr'.length]; exact List.getElem?_eq_none_iff.mp e⟩
  | _ => cases hl
theorem src_tup {m : Mp} {s : SH} {H : Hp} {ys : List PV} {x : V} (M : Match B X.K m s H) (r : RV X.K m s.length H (.tup ys) x) :
    ∃ p us, x = .ref p ∧ SqT X.K H p us ∧ TSrc B X.K m s H (.items ys) p := by
  obtain ⟨p, us, rfl, hp, rr⟩ := r
  refine ⟨p, us, rfl, hp.sq, fun m' s' H' g i => ⟨fun w e => ?_, fun e => ?_⟩⟩
  · have e : ys[i]? = some w := Option.some.inj e
    obtain ⟨y, e2, ry⟩ := (RVs.le (g.le M) _ _ rr).get e
    exact ⟨us, y, (TupR.le (g.le M) hp).sq, e2, ry⟩
  · have e : ys[i]? = none := Option.some.inj e
    exact ⟨us, (TupR.le (g.le M) hp).sq, by rw [rr.length]; exact List.getElem?_eq_none_iff.mp e⟩
theorem LSrc.ok {m : Mp} {s : SH} {H : Hp} {src : Src} {p : Addr} (h : LSrc B X.K m s H src p) : SrcOk B X.K m s H src (Itl X.K p) := fun m' s' H' g i => by
  obtain ⟨h1, h2⟩ := h m' s' H' g i
  refine ⟨fun v e => ?_, fun e => h2 e⟩
  obtain ⟨us, y, q, e2, ry⟩ := h1 v e
  refine ⟨⟨us, y, q, e2⟩, fun x H'' hy => ?_⟩
  obtain ⟨rfl, hx⟩ := hy
  have := hx us q
  rw [e2] at this
  cases this
  exact ⟨Go.refl g.mt, ry⟩
theorem TSrc.ok {m : Mp} {s : SH} {H : Hp} {src : Src} {p : Addr} (h : TSrc B X.K m s H src p) : SrcOk B X.K m s H src (Itt X.K p) := fun m' s' H' g i => by
  obtain ⟨h1, h2⟩ := h m' s' H' g i
  refine ⟨fun v e => ?_, fun e => h2 e⟩
  obtain ⟨us, y, q, e2, ry⟩ := h1 v e
  refine ⟨⟨us, y, q, e2⟩, fun x H'' hy => ?_⟩
  obtain ⟨rfl, hx⟩ := hy
  have := hx us q
  rw [e2] at this
  cases this
  exact ⟨Go.refl g.mt, ry⟩
/-- for .. in value -/
theorem si_val (h : SE B X e ra) : SI B X tg e (fun σ s => (ra σ s).bind fun x s => liftO (srcOf s x) s 45) := by
  refine ⟨fun pins s0 τ H Rq I ⟨m, s, σ, st, src, s', e0, kk⟩ => ?_⟩
  cases e1 : ra σ s with
  | bad w => simp only [e1, R.bind] at e0; cases e0
  | ok v s1 =>
    simp only [e1, R.bind] at e0
    cases e2 : srcOf s1 v with
    | none => rw [e2] at e0; cases e0
    | some src' =>
      rw [e2] at e0
      cases e0
      have lst : ∀ xs, lstOf s' v = some xs → wpAny (model X.prog X.w) X.A (eval e X.env) (fun v s1 => wpAny (model X.prog X.w) X.A (pyIter v) (PIE X pins τ tg Rq) X.xe s1) X.xe s0 := fun xs hl =>
        (pi_list h).run pins s0 τ H Rq I ⟨m, s, σ, st, v, _, e1, fun m1 H1 x g rv => by
          obtain ⟨p, us, rfl, hp, hs⟩ := src_list g.mt hl e2 rv
          exact ⟨p, rfl, ⟨us, hp⟩, kk m1 H1 _ g hs.ok⟩⟩
      cases v with
      | tup ys =>
        cases e2
        exact (pi_tup h).run pins s0 τ H Rq I ⟨m, s, σ, st, .tup ys, _, e1, fun m1 H1 x g rv => by
          obtain ⟨p, us, rfl, hp, hs⟩ := src_tup g.mt rv
          exact ⟨p, rfl, ⟨us, hp⟩, kk m1 H1 _ g hs.ok⟩⟩
      | scr ys => exact lst ys rfl
      | rol ys => exact lst ys rfl
      | ref n =>
        simp only [srcOf] at e2
        cases hc : s'[n]? with
        | none => rw [hc] at e2; cases e2
        | some c =>
          rw [hc] at e2
          cases c with
          | ins c fs => cases e2
          | lst ys => exact lst ys (by simp only [lstOf]; rw [hc])
      | str z =>
        cases e2
        exact (pi_str h).run pins s0 τ H Rq I ⟨m, s, σ, st, .str z, _, e1, fun m1 H1 x g rv => by
          cases rv
          refine ⟨z, rfl, kk m1 H1 _ g fun m2 s2 H2 g2 i => ⟨fun v e => ?_, fun e => ?_⟩⟩
          · have e : (z.cps.toList.map fun c => PV.str ⟨#[c]⟩)[i]? = some v := Option.some.inj e
            rw [List.getElem?_map] at e
            obtain ⟨c, e3, rfl⟩ := Option.map_eq_some_iff.mp e
            have hi : i < z.cps.size := by
              have := (List.getElem?_eq_some_iff.mp e3).1
              simpa using this
            refine ⟨hi, fun x H'' hy => ?_⟩
            obtain ⟨rfl, c', e4, rfl⟩ := hy
            have : z.cps[i]? = some c := by rw [← Array.getElem?_toList]; exact e3
            rw [this] at e4; cases e4
            exact ⟨Go.refl g2.mt, rfl⟩
          · have e : (z.cps.toList.map fun c => PV.str ⟨#[c]⟩)[i]? = none := Option.some.inj e
            have := List.getElem?_eq_none_iff.mp e
            show z.cps.size ≤ i
            simpa using this⟩
      | _ => cases e2
theorem upTo_at (lo : Int) (n i : Nat) (s : SH) : (Src.items (upTo lo n)).at s i = some (if i < n then some (.int (lo + (i : Int))) else none) := by
  show some (upTo lo n)[i]? = _
  unfold upTo
  rw [List.getElem?_map]
  by_cases h : i < n
  · rw [if_pos h, List.getElem?_range h]; rfl
  · rw [if_neg h, List.getElem?_eq_none (by simpa using h)]; rfl
theorem src_range {m : Mp} {s : SH} {H : Hp} (lo : Int) (n : Nat) : SrcOk B X.K m s H (.items (upTo lo n)) (Itr lo n) := fun m' s' H' g i => by
  rw [upTo_at]
  refine ⟨fun v e => ?_, fun e => ?_⟩
  · split at e
    · rename_i h
      cases e
      exact ⟨h, fun x H'' hy => by obtain ⟨rfl, rfl⟩ := hy; exact ⟨Go.refl g.mt, rfl⟩⟩
    · cases e
  · split at e
    · cases e
    · rename_i h; exact Nat.not_lt.mp h
theorem si_range1 (hg : Gl X "range") (hm : X.mg "range" = none) (ha : SA B X [a] rs) (hp : plainArgs [a] = true) (hl : ∀ σ s vs s', rs σ s = .ok vs s' → vs.length = 1) :
    SI B X tg (.Call (.Name "range" p) [a] [] pos) (fun σ s => (rs σ s).bind fun vs s => liftO (rangeOf vs) s 46) := by
  refine (pi_range1 hg hm ha (star_plain (plain_cons hp).1)).imp fun τ H Rq ⟨m, s, σ, st, src, s', e0, kk⟩ => ?_
  cases e1 : rs σ s with
  | bad w => simp only [e1, R.bind] at e0; cases e0
  | ok vs s1 =>
    simp only [e1, R.bind] at e0
    have hv := hl σ s vs s1 e1
    match vs, hv with
    | [v], _ =>
      refine ⟨m, s, σ, st, [v], s1, e1, fun m1 H1 xs g rv => ?_⟩
      obtain ⟨x, rfl, rx⟩ := rv1 rv
      cases v with
      | int j =>
        simp only [rangeOf] at e0
        split at e0
        · rename_i hj
          cases e0
          cases rx
          simp only [lim63_iff, Bool.and_eq_true, decide_eq_true_eq] at hj
          exact ⟨j, rfl, hj.1, hj.2, kk m1 H1 _ g (src_range 0 j.toNat)⟩
        · cases e0
      | _ => simp only [rangeOf] at e0; cases e0
theorem si_range2 (hg : Gl X "range") (hm : X.mg "range" = none) (ha : SA B X [a, b] rs) (hp : plainArgs [a, b] = true) (hl : ∀ σ s vs s', rs σ s = .ok vs s' → vs.length = 2) :
    SI B X tg (.Call (.Name "range" p) [a, b] [] pos) (fun σ s => (rs σ s).bind fun vs s => liftO (rangeOf vs) s 46) := by
  have h1 := plain_cons hp
  have h2 := plain_cons h1.2
  refine (pi_range2 hg hm ha (by rw [star_plain h1.1, star_plain h2.1]; rfl) (star_plain h2.1)).imp fun τ H Rq ⟨m, s, σ, st, src, s', e0, kk⟩ => ?_
  cases e1 : rs σ s with
  | bad w => simp only [e1, R.bind] at e0; cases e0
  | ok vs s1 =>
    simp only [e1, R.bind] at e0
    have hv := hl σ s vs s1 e1
    match vs, hv with
    | [v, w], _ =>
      refine ⟨m, s, σ, st, [v, w], s1, e1, fun m1 H1 xs g rv => ?_⟩
      obtain ⟨x, y, rfl, rx, ry⟩ := rv2 rv
      cases v with
      | int i =>
        cases w with
        | int j =>
          simp only [rangeOf] at e0
          split at e0
          · rename_i hj
            cases e0
            cases rx; cases ry
            simp only [lim63_iff, Bool.and_eq_true, decide_eq_true_eq] at hj
            exact ⟨i, j, rfl, ⟨hj.1.1, hj.1.2, hj.2.1, hj.2.2⟩, kk m1 H1 _ g (src_range i (j - i).toNat)⟩
          · cases e0
        | _ => simp only [rangeOf] at e0; cases e0
      | _ => cases w <;> (simp only [rangeOf] at e0; cases e0)
/-- new pairs at each turn -/
theorem Go.pair {K : PySem.W.Frag} {m : Mp} {s : SH} {H : Hp} {T : Addr} {v w : PV} {x y : V} (M : Match B K m s H) (hT : H T = none) (rx : RV K m s.length H v x) (ry : RV K m s.length H w y) :
    Go B K m s H m s (L2.upd H T (.tup [x, y])) ∧ RV K m s.length (L2.upd H T (.tup [x, y])) (.tup [v, w]) (.ref T) := by
  have g := Go.upd (B := B) (o := .tup [x, y]) M hT
  exact ⟨g, T, [x, y], rfl, .inl upd_same, RVs.two (RV.le (g.le M) _ _ rx) (RV.le (g.le M) _ _ ry)⟩
theorem si_zip {elts : List Expr} {kk : Nat} {tpos : Pos} (hg : Gl X "zip") (hm : X.mg "zip" = none) (ha : SE B X a ra) (hb : SE B X b rb) (hp : plainArgs [a, b] = true) :
    SI B X (.Tuple elts kk tpos) (.Call (.Name "zip" p) [a, b] [] pos) (fun σ s => (ra σ s).bind fun x s => (rb σ s).bind fun y s => liftO (zipOf s x y) s 47) := by
  have h1 := plain_cons hp
  have h2 := plain_cons h1.2
  have ha2 : SA B X [a, b] _ := sa_cons ha (sa_cons hb sa_nil (star_plain h2.1)) (star_plain h1.1)
  refine (RZ.pi_zipA hg hm ha2 (star_plain h1.1) (star_any h1.2)).imp fun τ H Rq ⟨m, s, σ, st, src, s', e0, kk⟩ => ?_
  cases e1 : ra σ s with
  | bad w => simp only [e1, R.bind] at e0; cases e0
  | ok v s1 =>
    simp only [e1, R.bind] at e0
    cases e2 : rb σ s1 with
    | bad w => simp only [e2] at e0; cases e0
    | ok w s2 =>
      simp only [e2] at e0
      cases e3 : zipOf s2 v w with
      | none => rw [e3] at e0; cases e0
      | some src' =>
        rw [e3] at e0
        cases e0
        refine ⟨m, s, σ, st, [v, w], s', by simp only [e1, e2, R.bind], fun m1 H1 xs g rv => ?_⟩
        obtain ⟨x, y, rfl, rx, ry⟩ := rv2 rv
        unfold zipOf at e3
        split at e3
        · rename_i ys zs
          cases e3
          obtain ⟨p, us, rfl, hp, hs⟩ := src_tup g.mt rx
          obtain ⟨q, ws, rfl, hq, hs2⟩ := src_tup g.mt ry
          refine ⟨p, q, us, ws, rfl, .inr ⟨hp, hq, kk m1 H1 _ g fun m' s' H' g' i => ?_⟩⟩
          obtain ⟨a1, a2⟩ := hs m' s' H' g' i
          obtain ⟨b1, b2⟩ := hs2 m' s' H' g' i
          refine ⟨fun v e => ?_, fun e => ?_⟩
          · simp only [Src.at] at e a1 a2 b1 b2
            cases ey : ys[i]? with
            | none => rw [ey] at e; cases e
            | some v1 =>
              cases ez : zs[i]? with
              | none => rw [ey, ez] at e; cases e
              | some v2 =>
                rw [ey, ez] at e
                cases e
                obtain ⟨u1, y1, q1, f1, r1⟩ := a1 v1 (by rw [ey])
                obtain ⟨u2, y2, q2, f2, r2⟩ := b1 v2 (by rw [ez])
                refine ⟨⟨u1, u2, y1, y2, q1, q2, f1, f2⟩, fun x H'' hy => ?_⟩
                obtain ⟨T, z1, z2, rfl, hT, rfl, hx1, hx2⟩ := hy
                have t1 := hx1 u1 q1; rw [f1] at t1; cases t1
                have t2 := hx2 u2 q2; rw [f2] at t2; cases t2
                exact Go.pair g'.mt hT r1 r2
          · simp only [Src.at] at e a1 a2 b1 b2
            cases ey : ys[i]? with
            | none =>
              obtain ⟨u1, q1, l1⟩ := a2 (by rw [ey])
              cases ez : zs[i]? with
              | none => obtain ⟨u2, q2, l2⟩ := b2 (by rw [ez]); exact ⟨u1, u2, q1, q2, .inl l1⟩
              | some v2 => obtain ⟨u2, y2, q2, f2, r2⟩ := b1 v2 (by rw [ez]); exact ⟨u1, u2, q1, q2, .inl l1⟩
            | some v1 =>
              obtain ⟨u1, y1, q1, f1, r1⟩ := a1 v1 (by rw [ey])
              cases ez : zs[i]? with
              | none => obtain ⟨u2, q2, l2⟩ := b2 (by rw [ez]); exact ⟨u1, u2, q1, q2, .inr l2⟩
              | some v2 => rw [ey, ez] at e; cases e
        · obtain ⟨l1, f1, e4⟩ := Option.bind_eq_some_iff.mp e3
          obtain ⟨l2, f2, e5⟩ := Option.bind_eq_some_iff.mp e4
          obtain ⟨p1, f3, e6⟩ := Option.bind_eq_some_iff.mp e5
          obtain ⟨p2, f4, rfl⟩ := Option.map_eq_some_iff.mp e6
          obtain ⟨p, us, rfl, hp, hs⟩ := src_list g.mt f1 f3 rx
          obtain ⟨q, ws, rfl, hq, hs2⟩ := src_list g.mt f2 f4 ry
          refine ⟨p, q, us, ws, rfl, .inl ⟨hp, hq, kk m1 H1 _ g fun m' s' H' g' i => ?_⟩⟩
          obtain ⟨a1, a2⟩ := hs m' s' H' g' i
          obtain ⟨b1, b2⟩ := hs2 m' s' H' g' i
          simp only [Src.at]
          cases ey : p1.at s' i with
          | none => exact ⟨fun v e => (by cases e), fun e => (by cases e)⟩
          | some o1 =>
            cases ez : p2.at s' i with
            | none => cases o1 <;> exact ⟨fun v e => (by cases e), fun e => (by cases e)⟩
            | some o2 =>
              cases o1 with
              | none =>
                refine ⟨fun v e => (by cases e), fun e => ?_⟩
                obtain ⟨u1, q1, l1⟩ := a2 ey
                cases o2 with
                | none => obtain ⟨u2, q2, l2⟩ := b2 ez; exact ⟨u1, u2, q1, q2, .inl l1⟩
                | some v2 => obtain ⟨u2, y2, q2, t2, r2⟩ := b1 v2 ez; exact ⟨u1, u2, q1, q2, .inl l1⟩
              | some v1 =>
                obtain ⟨u1, y1, q1, t1, r1⟩ := a1 v1 ey
                cases o2 with
                | none =>
                  refine ⟨fun v e => (by cases e), fun e => ?_⟩
                  obtain ⟨u2, q2, l2⟩ := b2 ez
                  exact ⟨u1, u2, q1, q2, .inr l2⟩
                | some v2 =>
                  obtain ⟨u2, y2, q2, t2, r2⟩ := b1 v2 ez
                  refine ⟨fun v e => ?_, fun e => (by cases e)⟩
                  cases e
                  refine ⟨⟨u1, u2, y1, y2, q1, q2, t1, t2⟩, fun x H'' hy => ?_⟩
                  obtain ⟨T, z1, z2, rfl, hT, rfl, hx1, hx2⟩ := hy
                  have w1 := hx1 u1 q1; rw [t1] at w1; cases w1
                  have w2 := hx2 u2 q2; rw [t2] at w2; cases w2
                  exact Go.pair g'.mt hT r1 r2
theorem si_enum {elts : List Expr} {kk : Nat} {tpos : Pos} (hg : Gl X "enumerate") (hm : X.mg "enumerate" = none) (ha : SE B X a ra) (hp : plainArgs [a] = true) :
    SI B X (.Tuple elts kk tpos) (.Call (.Name "enumerate" p) [a] [] pos) (fun σ s => (ra σ s).bind fun x s => liftO (enumOf s x) s 48) := by
  have h1 := plain_cons hp
  have ha2 : SA B X [a] _ := sa_cons ha sa_nil (star_plain h1.1)
  refine (pi_enum hg hm ha2 (star_plain h1.1)).imp fun τ H Rq ⟨m, s, σ, st, src, s', e0, kk⟩ => ?_
  cases e1 : ra σ s with
  | bad w => simp only [e1, R.bind] at e0; cases e0
  | ok v s1 =>
    simp only [e1, R.bind] at e0
    cases e3 : enumOf s1 v with
    | none => rw [e3] at e0; cases e0
    | some src' =>
      rw [e3] at e0
      cases e0
      refine ⟨m, s, σ, st, [v], s', by simp only [e1, R.bind], fun m1 H1 xs g rv => ?_⟩
      obtain ⟨x, rfl, rx⟩ := rv1 rv
      unfold enumOf at e3
      obtain ⟨l1, f1, e4⟩ := Option.bind_eq_some_iff.mp e3
      obtain ⟨p1, f3, rfl⟩ := Option.map_eq_some_iff.mp e4
      obtain ⟨p, us, rfl, hp, hs⟩ := src_list g.mt f1 f3 rx
      refine ⟨p, us, rfl, hp, kk m1 H1 _ g fun m' s' H' g' i => ?_⟩
      obtain ⟨a1, a2⟩ := hs m' s' H' g' i
      simp only [Src.at]
      cases ey : p1.at s' i with
      | none => exact ⟨fun v e => (by cases e), fun e => (by cases e)⟩
      | some o1 =>
        cases o1 with
        | none =>
          refine ⟨fun v e => (by cases e), fun e => ?_⟩
          obtain ⟨u1, q1, l1⟩ := a2 ey
          exact ⟨u1, q1, l1⟩
        | some v1 =>
          obtain ⟨u1, y1, q1, t1, r1⟩ := a1 v1 ey
          refine ⟨fun v e => ?_, fun e => (by cases e)⟩
          cases e
          refine ⟨⟨u1, y1, q1, t1⟩, fun x H'' hy => ?_⟩
          obtain ⟨T, z1, rfl, hT, rfl, hx1⟩ := hy
          have w1 := hx1 u1 q1; rw [t1] at w1; cases w1
          exact Go.pair (v := .int i) g'.mt hT rfl r1
end
end CS
end CSLoop_

section CSStm_
set_option maxRecDepth 100000
set_option maxHeartbeats 1000000
namespace CS
open PySem L2

section
variable {B : Nm} {K : PySem.W.Frag} {m m' : Mp} {s s' : SH} {H H' : Hp} {σ : Sl} {τ : St}
theorem StOk.set {i : Nat} {v : PV} {x : V} (st : StOk B K m s H σ τ) (r : RV K m s.length H v x) : StOk B K m s H (σ.set i (some v)) (τ.set i (some x)) := by
  refine ⟨st.mt, by rw [List.length_set, List.length_set]; exact st.len, fun j w e => ?_⟩
  by_cases h : i = j
  · subst h
    by_cases hl : i < σ.length
    · rw [List.getElem?_set_self hl] at e
      cases e
      exact ⟨x, List.getElem?_set_self (by rw [st.len]; exact hl), r⟩
    · rw [List.getElem?_eq_none (by rw [List.length_set]; omega)] at e; cases e
  · rw [List.getElem?_set_ne h] at e
    obtain ⟨y, e1, ry⟩ := st.at_ j w e
    exact ⟨y, by rw [List.getElem?_set_ne h]; exact e1, ry⟩
/-- several names -/
def setT : St → List Nat → List V → St
  | τ, i :: is, x :: xs => setT (τ.set i (some x)) is xs
  | τ, _, _ => τ
theorem StOk.setS : ∀ (is : List Nat) {vs : List PV} {xs : List V} {σ : Sl} {τ : St} {σ' : Sl}, StOk B K m s H σ τ → RVs K m s.length H vs xs → setSl σ is vs = some σ' → StOk B K m s H σ' (setT τ is xs) ∧ is.length = xs.length
  | [], [], xs, σ, τ, σ', st, r, e => by rw [show xs = [] from r]; cases e; exact ⟨st, rfl⟩
  | i :: is, v :: vs, _, σ, τ, σ', st, r, e => by
    obtain ⟨x, xs, rfl, r1, r2⟩ := r
    obtain ⟨h1, h2⟩ := StOk.setS is (st.set r1) r2 e
    exact ⟨h1, by rw [List.length_cons, List.length_cons, h2]⟩
  | [], _ :: _, _, _, _, _, _, _, e => by cases e
  | _ :: _, [], _, _, _, _, _, _, e => by cases e
theorem StOk.wipe (st : StOk B K m s H σ τ) : ∀ own : List Nat, StOk B K m s H (wipeS σ own) (L2.wipe τ own)
  | own => by
    have len : ∀ (own : List Nat) (σ : Sl), (wipeS σ own).length = σ.length := by
      intro own
      induction own with
      | nil => intro σ; rfl
      | cons i is ih => intro σ; simp only [wipeS]; rw [ih, List.length_set]
    have at_ : ∀ (own : List Nat) (σ : Sl) (j : Nat) (v : PV), (wipeS σ own)[j]? = some (some v) → σ[j]? = some (some v) ∧ j ∉ own := by
      intro own
      induction own with
      | nil => intro σ j v e; exact ⟨e, by simp⟩
      | cons i is ih =>
        intro σ j v e
        obtain ⟨h1, h2⟩ := ih _ j v e
        by_cases h : i = j
        · subst h
          by_cases hl : i < σ.length
          · rw [List.getElem?_set_self hl] at h1; cases h1
          · rw [List.getElem?_eq_none (by rw [List.length_set]; omega)] at h1; cases h1
        · rw [List.getElem?_set_ne h] at h1
          exact ⟨h1, by simp only [List.mem_cons, not_or]; exact ⟨fun q => h q.symm, h2⟩⟩
    refine ⟨st.mt, by rw [wipe_length, len]; exact st.len, fun j v e => ?_⟩
    obtain ⟨h1, h2⟩ := at_ own σ j v e
    obtain ⟨x, e1, r⟩ := st.at_ j v h1
    exact ⟨x, by rw [wipe_out h2]; exact e1, r⟩
theorem KonF.go {f : Fl} {D : Ends} (M : Match B K m s H) (g : Go B K m s H m' s' H') (h : KonF B K f m s H D) : KonF B K f m' s' H' D := by
  cases f with
  | next σ' t => exact fun m2 H2 τ2 g2 st2 => h m2 H2 τ2 (g.trans M g2) st2
  | ret v t => exact fun m2 H2 x g2 r => h m2 H2 x (g.trans M g2) r
  | brk σ' t => exact fun m2 H2 τ2 g2 st2 => h m2 H2 τ2 (g.trans M g2) st2
  | cont σ' t => exact fun m2 H2 τ2 g2 st2 => h m2 H2 τ2 (g.trans M g2) st2
  | bad w => exact h
theorem KonF.flE {r : R PV} {f : PV → SH → Fl} {D : Ends} (M : Match B K m s H) (h : KonF B K (CS.flE r f) m s H D) : ∃ v s1, r = .ok v s1 ∧ ∀ m1 H1, Go B K m s H m1 s1 H1 → KonF B K (f v s1) m1 s1 H1 D := by
  cases r with
  | bad w => exact h.elim
  | ok v s1 => exact ⟨v, s1, rfl, fun m1 H1 g => KonF.go M g h⟩
/-- an expression, then a statement's rest -/
theorem TEi.bindF {r : Sl → SH → R PV} {f : Sl → PV → SH → Fl} {D : Ends} {R' : VK} (st : StOk B K m s H σ τ) (h : KonF B K (CS.flE (r σ s) (f σ)) m s H D)
    (k : ∀ v s1 m1 H1 x, Go B K m s H m1 s1 H1 → StOk B K m1 s1 H1 σ τ → RV K m1 s1.length H1 v x → KonF B K (f σ v s1) m1 s1 H1 D → R' x H1) : TEi B K r τ H R' := by
  obtain ⟨v, s1, e, kk⟩ := h.flE st.mt
  exact ⟨m, s, σ, st, v, s1, e, fun m1 H1 x g rv => k v s1 m1 H1 x g (st.go g) rv (kk m1 H1 g)⟩
theorem KonF.next (M : Match B K m s H) {σ' : Sl} {τ' : St} {D : Ends} (h : KonF B K (.next σ' s) m s H D) (st : StOk B K m s H σ' τ') : D.nx τ' H := h m H τ' (Go.refl M) st
theorem KonF.nextGo {σ' : Sl} {τ' : St} {D : Ends} {s' : SH} (h : KonF B K (.next σ' s') m s H D) (g : Go B K m s H m' s' H') (st : StOk B K m' s' H' σ' τ') : D.nx τ' H' := h m' H' τ' g st
end

section
variable {B : Nm} {X : Cx} {e a b c i : Expr} {pos pos' p : Pos} {ra rb ri : Sl → SH → R PV} {tA : Sl → SH → R Bool} {rs ru : Sl → SH → Fl} {st st' : Stmt} {sts sts' : List Stmt} {x : Str}
/-! ### blocks and plain statements -/
theorem ss_nil : SSs B X [] (fun σ s => .next σ s) := pss_nil.imp fun D τ H ⟨m, s, σ, sk, k⟩ => KonF.next sk.mt k sk
theorem ss_cons (h : SS B X st rs) (h' : SSs B X sts ru) : SSs B X (st :: sts) (fun σ s => (rs σ s).andThen fun σ s => ru σ s) :=
  (pss_cons h h').imp fun D τ H ⟨m, s, σ, sk, k⟩ => by
    refine ⟨m, s, σ, sk, ?_⟩
    cases e : rs σ s with
    | next σ' s' =>
      simp only [e, Fl.andThen] at k
      exact fun m1 H1 τ1 g1 st1 => ⟨m1, s', σ', st1, KonF.go sk.mt g1 k⟩
    | ret v s' => simp only [e, Fl.andThen] at k; exact k
    | brk σ' s' => simp only [e, Fl.andThen] at k; exact k
    | cont σ' s' => simp only [e, Fl.andThen] at k; exact k
    | bad w => simp only [e, Fl.andThen] at k; exact k.elim
theorem s_pass : SS B X (.Pass pos) (fun σ s => .next σ s) := ps_pass.imp fun D τ H ⟨m, s, σ, sk, k⟩ => KonF.next sk.mt k sk
theorem s_break : SS B X (.Break pos) (fun σ s => .brk σ s) := ps_break.imp fun D τ H ⟨m, s, σ, sk, k⟩ => k m H τ (Go.refl sk.mt) sk
theorem s_cont : SS B X (.Continue pos) (fun σ s => .cont σ s) := ps_continue.imp fun D τ H ⟨m, s, σ, sk, k⟩ => k m H τ (Go.refl sk.mt) sk
theorem s_never : SS B X st (fun _ _ => .bad 61) := ps_never.imp fun D τ H ⟨m, s, σ, sk, k⟩ => k
theorem s_ex (h : SE B X e ra) (hs : swapsWith e none pos.line X.env = pure false) : SS B X (.Expr e pos) (fun σ s => flE (ra σ s) fun _ s => .next σ s) :=
  (ps_expr h hs).imp fun D τ H ⟨m, s, σ, sk, k⟩ => TEi.bindF (f := fun σ _ s => .next σ s) sk k fun v s1 m1 H1 x g st1 rv k1 => KonF.next st1.mt k1 st1
theorem s_ret (h : SE B X e ra) : SS B X (.Return (some e) pos) (fun σ s => flE (ra σ s) fun v s => .ret v s) :=
  (ps_ret h).imp fun D τ H ⟨m, s, σ, sk, k⟩ => TEi.bindF (f := fun σ v s => .ret v s) sk k fun v s1 m1 H1 x g st1 rv k1 => k1 m1 H1 x (Go.refl st1.mt) rv
theorem s_if (hc : SB B X c tA) (ha : SSs B X sts rs) (hb : SSs B X sts' ru) : SS B X (.If c sts sts' pos) (fun σ s => match tA σ s with | .ok true s => rs σ s | .ok false s => ru σ s | .bad w => .bad w) :=
  (ps_if hc ha hb).imp fun D τ H ⟨m, s, σ, sk, k⟩ => by
    cases e : tA σ s with
    | bad w => simp only [e] at k; exact k.elim
    | ok b s1 =>
      refine ⟨m, s, σ, sk, b, s1, e, fun m1 H1 d g rel => ?_⟩
      cases rel
      cases b with
      | true => simp only [e] at k; exact ⟨m1, s1, σ, sk.go g, KonF.go sk.mt g k⟩
      | false => simp only [e] at k; exact ⟨m1, s1, σ, sk.go g, KonF.go sk.mt g k⟩
/-- x = e -/
theorem s_set {j : Nat} (hN : X.N.Nodup) (hj : X.N[j]? = some x) (hx : Loc X.env.scope x) (h : SE B X e ra) (hs : swapsWith e (some (.Name x pos')) pos.line X.env = pure false) (hf : X.fn x = true ∨ X.env.scope.names.lookup x = some .local) :
    SS B X (.Assign [.Name x pos'] e pos) (fun σ s => flE (ra σ s) fun v s => .next (σ.set j (some v)) s) :=
  (ps_set hN hj hx h hs hf).imp fun D τ H ⟨m, s, σ, sk, k⟩ => TEi.bindF (f := fun σ v s => .next (σ.set j (some v)) s) sk k fun v s1 m1 H1 x g st1 rv k1 => KonF.next st1.mt k1 (st1.set rv)
end
end CS
end CSStm_

section CSStm2_
set_option maxRecDepth 100000
set_option maxHeartbeats 1000000
namespace CS
open PySem L2

section
variable {B : Nm} {X : Cx} {e a b c i o : Expr} {pos pos' p px py pz pt pt2 : Pos} {ra rb rc ri ro : Sl → SH → R PV} {rv : Sl → SH → R (List PV)} {tA : Sl → SH → R Bool} {rs ru : Sl → SH → Fl} {st st' : Stmt} {sts sts' : List Stmt} {x y z : Str} {es : List Expr}

/-- values, then a statement's rest -/
theorem TAi.bindF {K : PySem.W.Frag} {m : Mp} {s : SH} {H : Hp} {σ : Sl} {τ : St} {r : Sl → SH → R (List PV)} {f : Sl → PV → SH → Fl} {D : Ends} {R' : List V → Hp → Prop} (st : StOk B K m s H σ τ) (h : KonF B K (CS.flE ((r σ s).bind fun vs s => effO true (prim s .tup vs) s 31) (f σ)) m s H D)
    (k : ∀ vs s1 m1 H1 xs, Go B K m s H m1 s1 H1 → StOk B K m1 s1 H1 σ τ → RVs K m1 s1.length H1 vs xs → KonF B K (f σ (.tup vs) s1) m1 s1 H1 D → R' xs H1) : TAi B K r τ H R' := by
  obtain ⟨v, s1, e, kk⟩ := h.flE st.mt
  cases e1 : r σ s with
  | bad w => rw [e1] at e; cases e
  | ok vs s2 =>
    rw [e1] at e
    simp only [R.bind, prim, pTup] at e
    split at e
    · simp only [effO, apE, R.ok.injEq] at e
      obtain ⟨rfl, rfl⟩ := e
      exact ⟨m, s, σ, st, vs, s2, e1, fun m1 H1 x g rvs => k vs s2 m1 H1 x g (st.go g) rvs (kk m1 H1 g)⟩
    · cases e
/-- a, b = x, y of plain names -/
theorem s_par {j l : Nat} {kt k2 : Nat} (hc : X.calm = true) (hN : X.N.Nodup) (hj : X.N[j]? = some x) (hl : X.N[l]? = some y) (hjl : j ≠ l) (hx : X.env.scope.names.lookup x = some .local) (hy : X.env.scope.names.lookup y = some .local) (ha : SA B X [a, b] rv)
    (hw : swappedStores [.Tuple [.Name x px, .Name y py] kt pt] (.Tuple [a, b] k2 pt2) X.env = pure (some [x, y])) :
    SS B X (.Assign [.Tuple [.Name x px, .Name y py] kt pt] (.Tuple [a, b] k2 pt2) pos) (fun σ s => flE ((rv σ s).bind fun vs s => effO true (prim s .tup vs) s 31) fun v s => match v with | .tup xs => (match setSl σ [j, l] xs with | some σ' => .next σ' s | none => .bad 49) | _ => .bad 50) :=
  (ps_par hc hN hj hl hjl hx hy ha hw).imp fun D τ H ⟨m, s, σ, sk, k⟩ =>
    TAi.bindF (f := fun σ v s => match v with | .tup xs => (match setSl σ [j, l] xs with | some σ' => .next σ' s | none => .bad 49) | _ => .bad 50) sk k fun vs s1 m1 H1 xs g st1 rvs k1 => by
      dsimp only at k1
      cases e : setSl σ [j, l] vs with
      | none => rw [e] at k1; exact k1.elim
      | some σ' =>
        rw [e] at k1
        obtain ⟨st2, hlen⟩ := StOk.setS [j, l] st1 rvs e
        match xs, hlen, st2 with
        | [v, w], _, st2 => exact ⟨v, w, rfl, KonF.next st1.mt k1 st2⟩
theorem s_par3 {j l q : Nat} {kt k2 : Nat} (hc : X.calm = true) (hN : X.N.Nodup) (hj : X.N[j]? = some x) (hl : X.N[l]? = some y) (hq : X.N[q]? = some z) (hjl : j ≠ l) (hjq : j ≠ q) (hlq : l ≠ q) (hx : X.env.scope.names.lookup x = some .local) (hy : X.env.scope.names.lookup y = some .local) (hz : X.env.scope.names.lookup z = some .local) (ha : SA B X [a, b, c] rv)
    (hw : swappedStores [.Tuple [.Name x px, .Name y py, .Name z pz] kt pt] (.Tuple [a, b, c] k2 pt2) X.env = pure (some [x, y, z])) :
    SS B X (.Assign [.Tuple [.Name x px, .Name y py, .Name z pz] kt pt] (.Tuple [a, b, c] k2 pt2) pos) (fun σ s => flE ((rv σ s).bind fun vs s => effO true (prim s .tup vs) s 31) fun v s => match v with | .tup xs => (match setSl σ [j, l, q] xs with | some σ' => .next σ' s | none => .bad 49) | _ => .bad 50) :=
  (ps_par3 hc hN hj hl hq hjl hjq hlq hx hy hz ha hw).imp fun D τ H ⟨m, s, σ, sk, k⟩ =>
    TAi.bindF (f := fun σ v s => match v with | .tup xs => (match setSl σ [j, l, q] xs with | some σ' => .next σ' s | none => .bad 49) | _ => .bad 50) sk k fun vs s1 m1 H1 xs g st1 rvs k1 => by
      dsimp only at k1
      cases e : setSl σ [j, l, q] vs with
      | none => rw [e] at k1; exact k1.elim
      | some σ' =>
        rw [e] at k1
        obtain ⟨st2, hlen⟩ := StOk.setS [j, l, q] st1 rvs e
        match xs, hlen, st2 with
        | [v, w, u], _, st2 => exact ⟨v, w, u, rfl, KonF.next st1.mt k1 st2⟩

/-! ### targets, as they are -/
/-- several names one behind another -/
def gNs : List Nat → TGs
  | [], vs, σ, H, Q => vs = [] ∧ Q σ H
  | i :: is, vs, σ, H, Q => ∃ v r, vs = v :: r ∧ gNs is r (σ.set i (some v)) H Q
theorem gNs_set : ∀ (is : List Nat) (vs : List V) (σ : St) (H : Hp) (Q : St → Hp → Prop), is.length = vs.length → Q (setT σ is vs) H → gNs is vs σ H Q
  | [], [], _, _, _, _, q => ⟨rfl, q⟩
  | i :: is, v :: vs, σ, H, Q, h, q => ⟨v, vs, rfl, gNs_set is vs _ H Q (by simpa using h) q⟩
/-- the names of a tuple target -/
inductive NamesAt (X : Cx) : List Expr → List Nat → Prop where
  | nil : NamesAt X [] []
  | cons {x : Str} {pos : Pos} {es : List Expr} {i : Nat} {is : List Nat} (hi : X.N[i]? = some x) (hx : Loc X.env.scope x) (hf : X.fn x = true ∨ X.env.scope.names.lookup x = some .local) (r : NamesAt X es is) : NamesAt X (.Name x pos :: es) (i :: is)
theorem NamesAt.pgs (hN : X.N.Nodup) : ∀ {es : List Expr} {is : List Nat}, NamesAt X es is → PGs X es (gNs is)
  | _, _, .nil => pgs_nil
  | _, _, .cons hi hx hf r => pgs_cons (pg_name hN hi hx hf) (NamesAt.pgs hN r)
theorem NamesAt.len : ∀ {es : List Expr} {is : List Nat}, NamesAt X es is → (assignEach es X.env).length = is.length ∧ (assignEach es X.env).findIdx? (·.1) = none
  | _, _, .nil => ⟨rfl, rfl⟩
  | _, _, .cons _ _ _ r => by
    obtain ⟨h1, h2⟩ := NamesAt.len r
    refine ⟨?_, ?_⟩
    · show (assignEach _ X.env).length + 1 = _ + 1
      rw [h1]
    · show List.findIdx? _ ((false, _) :: assignEach _ X.env) = none
      rw [List.findIdx?_cons, h2]; rfl
/-- the target's reading, exactly: names -/
def gTg (K : PySem.W.Frag) : Tg → TG
  | .name i => gName i
  | .names is => fun v σ H Q => ∃ a xs, v = .ref a ∧ (SqT K H a xs ∨ SqL K H a xs) ∧ xs.length = is.length ∧ Q (setT σ is xs) H
  | _ => fun _ _ _ _ => False
theorem pg_or {e : Expr} {t u : TG} (h : PG X e t) (h' : PG X e u) : PG X e (fun v σ H Q => t v σ H Q ∨ u v σ H Q) := ⟨fun pins s σ H v w Q I r q => by
  rcases q with q | q
  · exact h.run pins s σ H v w Q I r q
  · exact h'.run pins s σ H v w Q I r q⟩
theorem pg_names {es : List Expr} {is : List Nat} {k : Nat} (hc : X.calm = true) (hN : X.N.Nodup) (h : NamesAt X es is) : PG X (.Tuple es k pos) (gTg X.K (.names is)) :=
  (pg_or (pg_tup hc (h.pgs hN) h.len.1 h.len.2) (pg_unl hc (h.pgs hN) h.len.1 h.len.2)).imp fun v σ H Q ⟨a, xs, e, q, l, w⟩ => by
    rcases q with q | q
    · exact .inl ⟨a, xs, e, q, l, gNs_set is xs σ H Q l.symm w⟩
    · exact .inr ⟨a, xs, e, q, l, gNs_set is xs σ H Q l.symm w⟩
/-- which slots a target has set -/
def tgEff : Tg → V → St → St → Prop
  | .name i, x, τ, τ' => τ' = τ.set i (some x)
  | .names is, _, τ, τ' => ∃ xs, is.length = xs.length ∧ τ' = setT τ is xs
  | _, _, _, _ => False
/-- a target that is a name or names: what the interpreter does is what the machine does -/
theorem tg_step {G : Gs} {call : Nat → List PV → SH → R PV} {t : Tg} {K : PySem.W.Frag} {m : Mp} {s : SH} {H : Hp} {σ σ' : Sl} {τ : St} {v : PV} {x : V} {s' : SH} {Q : St → Hp → Prop} (ht : (∃ i, t = .name i) ∨ ∃ is, t = .names is) (sk : StOk B K m s H σ τ) (r : RV K m s.length H v x)
    (e : asg G call t v σ s = .next σ' s') (q : ∀ τ', s' = s → StOk B K m s H σ' τ' → tgEff t x τ τ' → Q τ' H) : gTg K t x τ H Q := by
  rcases ht with ⟨i, rfl⟩ | ⟨is, rfl⟩
  · simp only [asg, Fl.next.injEq] at e
    obtain ⟨rfl, rfl⟩ := e
    exact q _ rfl (sk.set r) rfl
  · simp only [asg] at e
    split at e
    · rename_i ys hy
      cases h : setSl σ is ys with
      | none => simp only [h] at e; cases e
      | some σ2 =>
        simp only [h, Fl.next.injEq] at e
        obtain ⟨rfl, rfl⟩ := e
        obtain ⟨p, us, rfl, hp, rr⟩ := seqOf_ok sk.mt hy r
        obtain ⟨st2, hlen⟩ := StOk.setS is sk rr h
        exact ⟨p, us, rfl, hp.symm, hlen.symm, q _ rfl st2 ⟨us, hlen, rfl⟩⟩
    · cases e
/-- (a, b, ..) = e, a tuple of any make -/
theorem s_names {G : Gs} {call : Nat → List PV → SH → R PV} {is : List Nat} {k : Nat} (hc : X.calm = true) (hN : X.N.Nodup) (h : NamesAt X es is) (he : SE B X e ra) (hs : swapsWithSole [.Tuple es k pos'] e pos.line X.env = pure false) (hw : swappedStores [.Tuple es k pos'] e X.env = pure none) :
    SS B X (.Assign [.Tuple es k pos'] e pos) (fun σ s => flE (ra σ s) fun v s => asg G call (.names is) v σ s) :=
  (ps_asg he (pg_names hc hN h) hs hw).imp fun D τ H ⟨m, s, σ, sk, kk⟩ =>
    TEi.bindF (f := fun σ v s => asg G call (.names is) v σ s) sk kk fun v s1 m1 H1 x g st1 rv k1 => by
      cases e : asg G call (.names is) v σ s1 with
      | next σ' s' => exact tg_step (.inr ⟨is, rfl⟩) st1 rv e fun τ' e1 st2 _ => by rw [e] at k1; subst e1; exact KonF.next st1.mt k1 st2
      | bad w => rw [e] at k1; exact k1.elim
      | _ =>
        exfalso
        simp only [asg] at e
        split at e
        · split at e <;> cases e
        · cases e
/-- o[i] = e -/
theorem s_sub {G : Gs} {call : Nat → List PV → SH → R PV} {ao ai : IE} (ho : SE B X o (ev G call ao)) (hi : SE B X i (ev G call ai)) (he : SE B X e ra) (hns : ∀ lo hi st q, i ≠ .Slice lo hi st q) (hs : swapsWithSole [.Subscript o i pos'] e pos.line X.env = pure false) (hw : swappedStores [.Subscript o i pos'] e X.env = pure none)
    (hasg : ∀ v, assign (.Subscript o i pos') X.env v = (do
      let ov ← holding [v] (eval o X.env)
      let iv ← holding [v, ov] (eval i X.env)
      standAt pos'
      holding [v, ov, iv] (PySem.setItem ov iv v)
      release [v, ov, iv] [])) :
    SS B X (.Assign [.Subscript o i pos'] e pos) (fun σ s => flE (ra σ s) fun v s => asg G call (.sub ao ai) v σ s) :=
  (ps_asg he (pg_sub ho hi set_list hasg) hs hw).imp fun D τ H ⟨m, s, σ, sk, kk⟩ =>
    TEi.bindF (f := fun σ v s => asg G call (.sub ao ai) v σ s) sk kk fun v s1 m1 H1 x g st1 rv k1 => by
      simp only [asg] at k1
      cases e1 : ev G call ao σ s1 with
      | bad w => simp only [e1, R.bind] at k1; exact k1.elim
      | ok vo s2 =>
        simp only [e1, R.bind] at k1
        refine ⟨m1, s1, σ, st1, vo, s2, e1, fun m2 H2 xo g2 ro => ?_⟩
        have st2 := st1.go g2
        cases e2 : ev G call ai σ s2 with
        | bad w => simp only [e2] at k1; exact k1.elim
        | ok vi s3 =>
          simp only [e2] at k1
          refine ⟨m2, s2, σ, st2, vi, s3, e2, fun m3 H3 xi g3 ri => ?_⟩
          have st3 := st2.go g3
          have g23 := g2.trans st1.mt g3
          cases e3 : CS.setItem s3 vo vi v with
          | none => rw [e3] at k1; exact k1.elim
          | some eff =>
            rw [e3] at k1
            unfold CS.setItem at e3
            split at e3
            · rename_i n j
              split at e3
              · rename_i ys hc
                obtain ⟨q, e4, rfl⟩ := Option.map_eq_some_iff.mp e3
                simp only [effO, apE] at k1
                have ro' := RV.le (g3.le st2.mt) _ _ ro
                cases ri
                obtain ⟨us, eH, rr⟩ := st3.mt.cl n _ hc
                refine ⟨m3 n, us, j, q, ro'.2, rfl, eH, by rw [← ixN_eq, rr.length]; exact e4, ?_⟩
                have hl : n < s3.length := (List.getElem?_eq_some_iff.mp hc).1
                have gw : Go B X.K m3 s3 H3 m3 (s3.set n (.lst (ys.set q v))) (L2.upd H3 (m3 n) (.lst (us.set q x))) :=
                  Go.write st3.mt hl (fun vs e => by rw [eH] at e; cases e) (fun o u e => by rw [eH] at e; cases e) (fun l => ⟨_, upd_same, RVs.set q (RVs.le l _ _ rr) (RV.le l _ _ (RV.le (g23.le st1.mt) _ _ rv))⟩)
                exact KonF.nextGo k1 (g23.trans st1.mt gw) (st3.go gw)
              · cases e3
            · cases e3
end
end CS
end CSStm2_

section CSStm3_
set_option maxRecDepth 100000
set_option maxHeartbeats 1000000
namespace CS
open PySem L2

theorem RVf.put {B : Nm} {K : PySem.W.Frag} {m : Mp} {n : Nat} {H : Hp} (nd : B.nm.Nodup) {j : Nat} (hj : j < B.nm.length) {v : PV} {x : V} (r : RV K m n H v x) : ∀ {fs : List (Nat × PV)} {gs : List (Str × V)}, RVf B K m n H fs gs → RVf B K m n H (putA j v fs) (putF (nmOf B j) x gs)
  | [], gs, h => by rw [show gs = [] from h]; exact ⟨x, [], rfl, hj, r, rfl⟩
  | (i, w) :: fs, gs, h => by
    obtain ⟨y, g2, rfl, hi, r1, r2⟩ := h
    show RVf B K m n H (if i = j then (j, v) :: fs else (i, w) :: putA j v fs) (if nmOf B i = nmOf B j then (nmOf B i, x) :: g2 else (nmOf B i, y) :: putF (nmOf B j) x g2)
    by_cases h : i = j
    · subst h
      rw [if_pos rfl, if_pos rfl]
      exact ⟨x, g2, rfl, hj, r, r2⟩
    · have h2 : ¬ nmOf B i = nmOf B j := fun q => by
        unfold nmOf at q
        rw [List.getD_eq_getElem?_getD, List.getD_eq_getElem?_getD, List.getElem?_eq_getElem hj, List.getElem?_eq_getElem hi] at q
        exact h ((List.getElem_inj nd).mp q)
      rw [if_neg h, if_neg h2]
      exact ⟨y, _, rfl, hi, r1, RVf.put nd hj r r2⟩
theorem putA_len (j : Nat) (v : PV) : ∀ fs : List (Nat × PV), (putA j v fs).length ≤ fs.length + 1
  | [] => by simp [putA]
  | (i, w) :: fs => by
    simp only [putA]
    split
    · simp
    · have := putA_len j v fs; simp; omega
theorem RVf.length {B : Nm} {K : PySem.W.Frag} {m : Mp} {n : Nat} {H : Hp} : ∀ {fs : List (Nat × PV)} {gs : List (Str × V)}, RVf B K m n H fs gs → gs.length = fs.length
  | [], gs, h => by rw [show gs = [] from h]; rfl
  | (i, w) :: fs, gs, h => by obtain ⟨y, g2, rfl, hi, r1, r2⟩ := h; rw [List.length_cons, List.length_cons, RVf.length r2]

section
variable {P : Pk} {X : Cx} {call : Nat → List PV → SH → R PV} {k : Nat} {e a b c i o iter tg elt : Expr} {pos pos' p : Pos} {ra rb ro re : Sl → SH → R PV} {tA : Sl → SH → R Bool} {rs ru : Sl → SH → Fl} {st st' : Stmt} {sts sts' : List Stmt} {x : Str} {es : List Expr}
/-- o.f = e -/
theorem s_fld {f : Nat} {name : Str} {ao : IE} (OK : PkOk P X.K X.mg) (hn : nmOf P.B f = name) (ho : SE P.B X o (ev P.G call ao)) (he : SE P.B X e ra) (hs : swapsWith e (some (.Attribute o name pos')) pos.line X.env = pure false) :
    SS P.B X (.Assign [.Attribute o name pos'] e pos) (fun σ s => flE (ra σ s) fun v s => asg P.G call (.attr ao f) v σ s) := by
  subst hn
  refine (ps_fld ho he hs).imp fun D τ H ⟨m, s, σ, sk, kk⟩ =>
    TEi.bindF (f := fun σ v s => asg P.G call (.attr ao f) v σ s) sk kk fun v s1 m1 H1 x g st1 rv k1 => ?_
  simp only [asg] at k1
  cases e1 : ev P.G call ao σ s1 with
  | bad w => simp only [e1, R.bind] at k1; exact k1.elim
  | ok vo s2 =>
    simp only [e1, R.bind] at k1
    refine ⟨m1, s1, σ, st1, vo, s2, e1, fun m2 H2 xo g2 ro => ?_⟩
    have st2 := st1.go g2
    cases e3 : CS.setAttr P.G s2 f vo v with
    | none => rw [e3] at k1; exact k1.elim
    | some eff =>
      rw [e3] at k1
      unfold CS.setAttr at e3
      split at e3
      · rename_i n
        split at e3
        · rename_i c fs hc
          split at e3
          · rename_i hlen
            simp only [Bool.and_eq_true, decide_eq_true_eq] at hlen
            obtain ⟨hl1, hf⟩ := hlen
            cases e3
            simp only [effO, apE] at k1
            unfold fldOk at hf
            split at hf
            · rename_i Cl hC
              obtain ⟨hfl, hna⟩ := (OK.clo c Cl hC).flds f hf
              obtain ⟨dx, gs, eH, hcn, rf⟩ := st2.mt.cl n _ hc
              refine ⟨m2 n, P.B.ca c, dx, gs, ro.2, eH, (OK.clo c Cl hC).cl, hna, by rw [rf.length]; exact hl1, ?_⟩
              have hl : n < s2.length := (List.getElem?_eq_some_iff.mp hc).1
              have rv2 := RV.le (g2.le st1.mt) _ _ rv
              have gw : Go P.B X.K m2 s2 H2 m2 (s2.set n (.ins c (putA f v fs))) (L2.upd H2 (m2 n) (.ins (P.B.ca c) dx (putF (nmOf P.B f) x gs))) :=
                Go.write st2.mt hl (fun vs e => by rw [eH] at e; cases e) (fun o u e => by rw [eH] at e; cases e) (fun l => ⟨dx, _, upd_same, hcn, RVf.put OK.nd hfl (RV.le l _ _ rv2) (RVf.le l _ _ rf)⟩)
              exact KonF.nextGo k1 (g2.trans st1.mt gw) (st2.go gw)
            · cases hf
          · cases e3
        · cases e3
      · cases e3

/-! ### for -/
theorem s_for {B : Nm} {G : Gs} {t : Tg} {ri : Sl → SH → R Src} {rbody : Sl → SH → Fl} (ht : (∃ i, t = .name i) ∨ ∃ is, t = .names is) (hxe : PassesOwn (model X.prog X.w) X.A X.env X.xe) (hc : X.calm = true) (hi : SI B X tg iter ri) (hg : PG X tg (gTg X.K t)) (hb : SSs B X sts rbody)
    (hs : ∀ x, foldedSetIterable iter X.env x = pure x) :
    SS B X (.For tg iter sts [] pos) (fun σ s => match ri σ s with | .ok src s => forS src (fun v σ s => (asg G call t v σ s).andThen fun σ s => rbody σ s) (src.size s + 1) 0 σ s | .bad w => .bad w) := by
  refine (ps_for hxe hc hi hg hb hs).imp fun D τ H ⟨m, s, σ, sk, kk⟩ => ?_
  cases e0 : ri σ s with
  | bad w => simp only [e0] at kk; exact kk.elim
  | ok src s1 =>
    simp only [e0] at kk
    refine ⟨m, s, σ, sk, src, s1, e0, fun m1 H1 J g1 ok => ?_⟩
    have sk1 := sk.go g1
    refine ⟨fun i mm τ' H' => ∃ m' s' σ', Go B X.K m1 s1 H1 m' s' H' ∧ StOk B X.K m' s' H' σ' τ' ∧ KonF B X.K (forS src (fun v σ s => (asg G call t v σ s).andThen fun σ s => rbody σ s) mm i σ' s') m' s' H' D,
      ⟨src.size s1 + 1, m1, s1, σ, Go.refl g1.mt, sk1, KonF.go sk.mt g1 kk⟩, ?_⟩
    rintro i mm τ' H' ⟨m', s', σ', g', sk', kf⟩
    cases mm with
    | zero => exact kf.elim
    | succ fuel =>
      simp only [forS] at kf
      cases ea : src.at s' i with
      | none => simp only [ea] at kf; exact kf.elim
      | some o =>
        cases o with
        | none =>
          simp only [ea] at kf
          exact .inl ⟨(ok m' s' H' g' i).2 ea, KonF.next sk'.mt kf sk'⟩
        | some v =>
          simp only [ea] at kf
          obtain ⟨hgo, hy⟩ := (ok m' s' H' g' i).1 v ea
          refine .inr ⟨hgo, fun τ2 H2 => ∃ m2 s2 σ2, Go B X.K m1 s1 H1 m2 s2 H2 ∧ StOk B X.K m2 s2 H2 σ2 τ2 ∧ KonF B X.K (forS src (fun v σ s => (asg G call t v σ s).andThen fun σ s => rbody σ s) fuel (i + 1) σ2 s2) m2 s2 H2 D,
            fun τ2 H2 h => ⟨fuel, Nat.lt_succ_self _, h⟩, fun x H'' yl => ?_⟩
          obtain ⟨gy, rv⟩ := hy x H'' yl
          have sk'' := sk'.go gy
          cases eg : asg G call t v σ' s' with
          | bad w => simp only [eg, Fl.andThen] at kf; exact kf.elim
          | next σ2 s2 =>
            simp only [eg, Fl.andThen] at kf
            refine tg_step ht sk'' rv eg fun τ2 es st2 _ => ?_
            subst es
            refine ⟨m', s2, σ2, st2, ?_⟩
            have gb : Go B X.K m1 s1 H1 m' s2 H'' := g'.trans g1.mt gy
            cases er : rbody σ2 s2 with
            | bad w => simp only [er] at kf; exact kf.elim
            | next σ3 s3 =>
              simp only [er] at kf
              exact fun m3 H3 τ3 g3 st3 => ⟨m3, s3, σ3, gb.trans g1.mt g3, st3, KonF.go sk'.mt (gy.trans sk'.mt g3) kf⟩
            | cont σ3 s3 =>
              simp only [er] at kf
              exact fun m3 H3 τ3 g3 st3 => ⟨m3, s3, σ3, gb.trans g1.mt g3, st3, KonF.go sk'.mt (gy.trans sk'.mt g3) kf⟩
            | brk σ3 s3 =>
              simp only [er] at kf
              exact fun m3 H3 τ3 g3 st3 => kf m3 H3 τ3 (gy.trans sk'.mt g3) st3
            | ret w s3 =>
              simp only [er] at kf
              exact fun m3 H3 x3 g3 r3 => kf m3 H3 x3 (gy.trans sk'.mt g3) r3
          | _ =>
            exfalso
            rcases ht with ⟨j, rfl⟩ | ⟨is, rfl⟩
            · simp only [asg] at eg; cases eg
            · simp only [asg] at eg
              split at eg
              · split at eg <;> cases eg
              · cases eg
/-! ### while -/
theorem s_while {B : Nm} {rbody : Sl → SH → Fl} {n : Nat} (hxe : PassesOwn (model X.prog X.w) X.A X.env X.xe) (hc : SB B X c tA) (hb : SSs B X sts rbody) :
    SS B X (.While c sts [] pos) (fun σ s => whileS (fun σ s => tA σ s) (fun σ s => rbody σ s) n σ s) := by
  refine (ps_while hxe hc hb).imp fun D τ H ⟨m, s, σ, sk, kk⟩ => ?_
  refine ⟨fun mm τ' H' => ∃ m' s' σ', StOk B X.K m' s' H' σ' τ' ∧ KonF B X.K (whileS (fun σ s => tA σ s) (fun σ s => rbody σ s) mm σ' s') m' s' H' D, ⟨n, m, s, σ, sk, kk⟩, ?_⟩
  rintro mm τ' H' ⟨m', s', σ', sk', kf⟩
  cases mm with
  | zero => exact kf.elim
  | succ fuel =>
    simp only [whileS] at kf
    cases et : tA σ' s' with
    | bad w => simp only [et] at kf; exact kf.elim
    | ok bo s1 =>
      refine ⟨m', s', σ', sk', bo, s1, et, fun m1 H1 d g1 rel => ?_⟩
      cases rel
      have sk1 := sk'.go g1
      cases bo with
      | false =>
        simp only [et] at kf
        exact KonF.nextGo kf g1 sk1
      | true =>
        simp only [et] at kf
        refine ⟨fun τ2 H2 => ∃ m2 s2 σ2, StOk B X.K m2 s2 H2 σ2 τ2 ∧ KonF B X.K (whileS (fun σ s => tA σ s) (fun σ s => rbody σ s) fuel σ2 s2) m2 s2 H2 D, fun τ2 H2 h => ⟨fuel, Nat.lt_succ_self _, h⟩, m1, s1, σ', sk1, ?_⟩
        cases er : rbody σ' s1 with
        | bad w => simp only [er] at kf; exact kf.elim
        | next σ3 s3 => simp only [er] at kf; exact fun m3 H3 τ3 g3 st3 => ⟨m3, s3, σ3, st3, KonF.go sk'.mt (g1.trans sk'.mt g3) kf⟩
        | cont σ3 s3 => simp only [er] at kf; exact fun m3 H3 τ3 g3 st3 => ⟨m3, s3, σ3, st3, KonF.go sk'.mt (g1.trans sk'.mt g3) kf⟩
        | brk σ3 s3 => simp only [er] at kf; exact fun m3 H3 τ3 g3 st3 => kf m3 H3 τ3 (g1.trans sk'.mt g3) st3
        | ret w s3 => simp only [er] at kf; exact fun m3 H3 x3 g3 r3 => kf m3 H3 x3 (g1.trans sk'.mt g3) r3
end
end CS
end CSStm3_

section CSLc_
set_option maxRecDepth 100000
set_option maxHeartbeats 1000000
namespace CS
open PySem L2

section
variable {B : Nm} {K : PySem.W.Frag} {m m' : Mp} {s s' : SH} {H H' : Hp}
/-- a thing that is no cell is written -/
theorem Match.off (M : Match B K m s H) {D : Addr} {us vs : List V} (hD : ∀ j, j < s.length → m j ≠ D) (hz : ¬ m.fz D) (hH : H D = some (.lst us)) : Match B K m s (L2.upd H D (.lst vs)) ∧ Le K m s.length H m s.length (L2.upd H D (.lst vs)) := by
  have l : Le K m s.length H m s.length (L2.upd H D (.lst vs)) := ⟨rfl, fun p o z e => ⟨z, by rw [upd_ne (fun q : p = D => hz (q ▸ z))]; exact e⟩, Nat.le_refl _, fun _ _ => rfl, fun p ws e => by
    rw [upd_ne (fun q : p = D => by rw [q, hH] at e; cases e)]; exact e, fun p o u e => by
    rw [upd_ne (fun q : p = D => by rw [q, hH] at e; cases e)]; exact e⟩
  exact ⟨⟨M.nb, M.nf, fun a z => let ⟨o, e⟩ := M.fx a z; ⟨o, (l.fz a o z e).2⟩, M.inj, fun i c e => (M.cl i c e).le l (upd_ne (hD i (List.getElem?_eq_some_iff.mp e).1))⟩, l⟩
theorem wipe_set {τ : St} {i : Nat} {o : Option V} : ∀ {own : List Nat}, i ∈ own → L2.wipe (τ.set i o) own = L2.wipe τ own
  | [], h => by cases h
  | v :: vs, h => by
    unfold L2.wipe
    by_cases hv : i ∈ vs
    · rw [wipe_set hv]
    · have e : i = v := by
        rcases List.mem_cons.mp h with e | e
        · exact e
        · exact absurd e hv
      subst e
      apply List.ext_getElem?
      intro j
      by_cases hj : i = j
      · subst hj
        by_cases hl : i < τ.length
        · rw [List.getElem?_set_self (by rw [wipe_length, List.length_set]; exact hl), List.getElem?_set_self (by rw [wipe_length]; exact hl)]
        · rw [List.getElem?_eq_none (by rw [List.length_set, wipe_length, List.length_set]; omega), List.getElem?_eq_none (by rw [List.length_set, wipe_length]; omega)]
      · rw [List.getElem?_set_ne hj, List.getElem?_set_ne hj]
        by_cases hjv : j ∈ vs
        · -- both are wiped there
          have w : ∀ (τ : St) (vs : List Nat), j ∈ vs → j < τ.length → (L2.wipe τ vs)[j]? = some none := by
            intro τ vs
            induction vs with
            | nil => intro h; cases h
            | cons u us ih =>
              intro h hl
              unfold L2.wipe
              by_cases hu : u = j
              · subst hu; rw [List.getElem?_set_self (by rw [wipe_length]; exact hl)]
              · rw [List.getElem?_set_ne hu]
                rcases List.mem_cons.mp h with e | e
                · exact absurd e.symm hu
                · exact ih e hl
          by_cases hl : j < τ.length
          · rw [w _ _ hjv (by rw [List.length_set]; exact hl), w _ _ hjv hl]
          · rw [List.getElem?_eq_none (by rw [wipe_length, List.length_set]; omega), List.getElem?_eq_none (by rw [wipe_length]; omega)]
        · rw [wipe_out hjv, wipe_out hjv, List.getElem?_set_ne hj]
theorem wipe_setT {own : List Nat} : ∀ {is : List Nat} {xs : List V} {τ : St}, (∀ i ∈ is, i ∈ own) → L2.wipe (setT τ is xs) own = L2.wipe τ own
  | [], [], _, _ => rfl
  | [], _ :: _, _, _ => rfl
  | _ :: _, [], _, _ => rfl
  | i :: is, x :: xs, τ, h => by
    unfold setT
    rw [wipe_setT fun j hj => h j (List.mem_cons_of_mem _ hj), wipe_set (h i (List.mem_cons_self ..))]
theorem wipe_wipe {own : List Nat} {τ : St} : ∀ vs : List Nat, (∀ i ∈ vs, i ∈ own) → L2.wipe (L2.wipe τ vs) own = L2.wipe τ own
  | [], _ => rfl
  | v :: vs, h => by
    show L2.wipe ((L2.wipe τ vs).set v none) own = _
    rw [wipe_set (h v (List.mem_cons_self ..)), wipe_wipe vs fun i hi => h i (List.mem_cons_of_mem _ hi)]
end

/-- the slots that a target sets -/
def tgSlots : Tg → List Nat
  | .name i => [i]
  | .names is => is
  | _ => []
section
variable {P : Pk} {X : Cx} {call : Nat → List PV → SH → R PV} {k : Nat} {iter tg elt : Expr} {ifs : List Expr} {pos : Pos} {scope : Scope} {own : List (Str × Nat)}
def turnS (G : Gs) (call : Nat → List PV → SH → R PV) (t : Tg) (σ : Sl) (own : List Nat) (rt : Sl → SH → R Bool) (re : Sl → SH → R PV) : PV → SH → R (Option PV) := fun v s => match asg G call t v (wipeS σ own) s with
  | .next σ' s => (rt σ' s).bind fun k s => if k then (re σ' s).bind fun y s => .ok (some y) s else .ok none s
  | _ => .bad 43
/-- the reading of a list comprehension -/
theorem lc_read {z : Bool} {B : Nm} {K : PySem.W.Frag} {G : Gs} {t : Tg} {ri : Sl → SH → R Src} {rt : Sl → SH → R Bool} {re : Sl → SH → R PV} {vs : List Nat} (ht : (∃ i, t = .name i) ∨ ∃ is, t = .names is) (hown : ∀ i ∈ tgSlots t, i ∈ vs) {τ : St} {H : Hp} {Q : VK}
    (h : TEi B K (fun σ s => (ri σ s).bind fun src s => (compS src (turnS G call t σ vs rt re) (src.size s + 1) 0 [] s).bind fun ys s => apE z (.new (.lst ys)) s) τ H Q) :
    tLc (TIi B K ri) (gTg K t) (TTi B K rt) (TEi B K re) vs τ H Q := by
  obtain ⟨m, s, σ, sk, kon⟩ := h
  cases e0 : ri σ s with
  | bad w => simp only [e0, R.bind] at kon; exact (Kon.bad kon).elim
  | ok src s1 =>
    simp only [e0, R.bind] at kon
    refine ⟨m, s, σ, sk, src, s1, e0, fun m1 H1 J g1 ok D hD => ?_⟩
    have sk1 := sk.go g1
    obtain ⟨w, sw, ew, kw⟩ := kon
    cases ec : compS src (turnS G call t σ vs rt re) (src.size s1 + 1) 0 [] s1 with
    | bad w => rw [ec] at ew; cases ew
    | ok accF sF =>
      rw [ec] at ew
      have kw : ∀ m' H' x, Go B K m s H m' (if z = true then sF else sF ++ [Cell.lst accF]) H' → RV K m' (if z = true then sF else sF ++ [Cell.lst accF]).length H' (if z = true then .rol accF else .ref sF.length) x → Q x H' := by
        cases z with
        | true => simp only [apE, if_true] at ew; cases ew; exact kw
        | false => simp only [apE, Bool.false_eq_true, if_false] at ew; cases ew; exact kw
      refine ⟨fun i mm H' => ∃ m' s' acc accV, Go B K m1 s1 H1 m' s' H' ∧ H' D = some (.lst accV) ∧ RVs K m' s'.length H' acc accV ∧ (∀ j, j < s'.length → m' j ≠ D) ∧ ¬ m'.fz D ∧ compS src (turnS G call t σ vs rt re) mm i acc s' = .ok accF sF,
        ⟨src.size s1 + 1, m1, s1, [], [], Go.upd g1.mt hD, upd_same, rfl, fun j hj q => ?_, fun q => ?_, ec⟩, ?_⟩
      · obtain ⟨o, eo⟩ := g1.mt.ex hj
        rw [q, hD] at eo; cases eo
      · obtain ⟨o, eo⟩ := g1.mt.fx D q
        rw [hD] at eo; cases eo
      · rintro i mm H' ⟨m', s', acc, accV, g', hDl, rA, hne, hnz, ecc⟩
        have sk' : StOk B K m' s' H' σ τ := sk1.go g'
        cases mm with
        | zero => simp only [compS] at ecc; cases ecc
        | succ fuel =>
          simp only [compS] at ecc
          cases ea : src.at s' i with
          | none => simp only [ea] at ecc; cases ecc
          | some o =>
            cases o with
            | none =>
              simp only [ea, R.ok.injEq] at ecc
              obtain ⟨rfl, rfl⟩ := ecc
              refine .inl ⟨(ok m' s' H' g' i).2 ea, ?_⟩
              cases hzz : z with
              | true =>
                have gF : Go B K m s H (frzM m' D) s' H' := by
                  have gb : Go B K m1 s1 H1 (frzM m' D) s' H' := by
                    have l : Le K m' s'.length H' (frzM m' D) s'.length H' := ⟨rfl, fun p o z e => ⟨.inl z, e⟩, Nat.le_refl _, fun _ _ => rfl, fun _ _ e => e, fun _ _ _ e => e⟩
                    refine ⟨fun a h => .inl (g'.fzm a h), fun a h => ?_, g'.len, g'.ag, g'.fr, g'.kp, ⟨g'.mt.nb, fun i hi q => ?_, fun a q => ?_, g'.mt.inj, fun a c e => (g'.mt.cl a c e).le l rfl⟩⟩
                    · rcases h with h | rfl
                      · exact g'.fzn a h
                      · exact .inr hD
                    · rcases q with q | q
                      · exact g'.mt.nf i hi q
                      · exact hne i hi q
                    · rcases q with q | rfl
                      · exact g'.mt.fx a q
                      · exact ⟨_, hDl⟩
                  exact g1.trans sk.mt gb
                simp only [hzz, if_true] at kw
                have l : Le K m' s'.length H' (frzM m' D) s'.length H' := ⟨rfl, fun p o z e => ⟨.inl z, e⟩, Nat.le_refl _, fun _ _ => rfl, fun _ _ e => e, fun _ _ _ e => e⟩
                exact kw _ H' _ gF ⟨D, accV, rfl, .inr rfl, hDl, RVs.le l _ _ rA⟩
              | false =>
              simp only [hzz, Bool.false_eq_true, if_false] at kw
              -- the list is the last cell
              have gF : Go B K m s H (extM m' s'.length D) (s' ++ [Cell.lst acc]) H' := by
                have gb : Go B K m1 s1 H1 (extM m' s'.length D) (s' ++ [Cell.lst acc]) H' := by
                  have l : Le K m' s'.length H' (extM m' s'.length D) (s' ++ [Cell.lst acc]).length H' := ⟨rfl, fun p o z e => ⟨z, e⟩, by simp, fun i hi => extM_old hi, fun _ _ e => e, fun _ _ _ e => e⟩
                  refine ⟨g'.fzm, g'.fzn, Nat.le_trans g'.len (by simp), fun j hj => (extM_old (Nat.lt_of_lt_of_le hj g'.len)).trans (g'.ag j hj), fun j h1 h2 => ?_, g'.kp, ⟨g'.mt.nb, fun a ha q => ?_, g'.mt.fx, fun a b ha hb e => ?_, fun a c e => ?_⟩⟩
                  · by_cases hj : j < s'.length
                    · rw [extM_old hj]; exact g'.fr j h1 hj
                    · have : j = s'.length := by simp at h2; omega
                      rw [this, extM_new]; exact hD
                  · simp only [List.length_append, List.length_singleton] at ha
                    by_cases h1 : a < s'.length
                    · rw [extM_old h1] at q; exact g'.mt.nf a h1 q
                    · have : a = s'.length := by omega
                      rw [this, extM_new] at q; exact hnz q
                  · simp only [List.length_append, List.length_singleton] at ha hb
                    by_cases h1 : a < s'.length
                    · by_cases h2 : b < s'.length
                      · rw [extM_old h1, extM_old h2] at e; exact g'.mt.inj a b h1 h2 e
                      · have : b = s'.length := by omega
                        rw [this, extM_old h1, extM_new] at e; exact absurd e (hne a h1)
                    · have e1 : a = s'.length := by omega
                      by_cases h2 : b < s'.length
                      · rw [e1, extM_old h2, extM_new] at e; exact absurd e.symm (hne b h2)
                      · omega
                  · by_cases h1 : a < s'.length
                    · rw [List.getElem?_append_left h1] at e
                      rw [extM_old h1]
                      exact (g'.mt.cl a c e).le l rfl
                    · rw [List.getElem?_append_right (Nat.not_lt.mp h1)] at e
                      have e0 : a - s'.length = 0 := by
                        cases q : a - s'.length with
                        | zero => rfl
                        | succ k => rw [q] at e; simp at e
                      have ei : a = s'.length := by omega
                      rw [e0] at e
                      simp at e
                      subst e
                      rw [ei, extM_new]
                      exact ⟨accV, hDl, RVs.le l _ _ rA⟩
                exact g1.trans sk.mt gb
              exact kw _ H' _ gF ⟨by simp, by rw [extM_new]⟩
            | some v =>
              simp only [ea] at ecc
              obtain ⟨hgo, hy⟩ := (ok m' s' H' g' i).1 v ea
              refine .inr ⟨hgo, fun H2 => ∃ m2 s2 acc2 accV2, Go B K m1 s1 H1 m2 s2 H2 ∧ H2 D = some (.lst accV2) ∧ RVs K m2 s2.length H2 acc2 accV2 ∧ (∀ j, j < s2.length → m2 j ≠ D) ∧ ¬ m2.fz D ∧ compS src (turnS G call t σ vs rt re) fuel (i + 1) acc2 s2 = .ok accF sF,
                fun H2 h => ⟨fuel, Nat.lt_succ_self _, h⟩, fun x H'' yl => ?_⟩
              obtain ⟨gy, rv⟩ := hy x H'' yl
              -- from (m', s', H') on, D stays
              have stay : ∀ {m2 : Mp} {s2 : SH} {H2 : Hp}, Go B K m' s' H' m2 s2 H2 → Go B K m1 s1 H1 m2 s2 H2 ∧ H2 D = some (.lst accV) ∧ RVs K m2 s2.length H2 acc accV ∧ (∀ j, j < s2.length → m2 j ≠ D) ∧ ¬ m2.fz D := fun {m2 s2 H2} g2 => by
                refine ⟨g'.trans g1.mt g2, g2.kp D _ hDl fun j hj q => hne j hj q.symm, RVs.le (g2.le g'.mt) _ _ rA, fun j hj q => ?_, fun q => ?_⟩
                by_cases h1 : j < s'.length
                · rw [g2.ag j h1] at q; exact hne j h1 q
                · have := g2.fr j (Nat.not_lt.mp h1) hj
                  rw [q, hDl] at this; cases this
                · rcases g2.fzn D q with q | q
                  · exact hnz q
                  · rw [hDl] at q; cases q
              have skw : StOk B K m' s' H'' (wipeS σ vs) (L2.wipe τ vs) := (sk'.go gy).wipe vs
              unfold turnS at ecc
              cases eg : asg G call t v (wipeS σ vs) s' with
              | next σ2 s2 =>
                rw [eg] at ecc
                dsimp only at ecc
                refine tg_step ht skw rv eg fun τ2 es st2 eff => ⟨?_, ?_⟩
                · rcases ht with ⟨j, rfl⟩ | ⟨is, rfl⟩
                  · rw [show τ2 = _ from eff, wipe_set (hown j (by simp [tgSlots])), wipe_wipe vs fun _ h => h]
                  · obtain ⟨xs, _, rfl⟩ := eff
                    rw [wipe_setT (is := is) (fun j hj => hown j hj), wipe_wipe vs fun _ h => h]
                · subst es
                  cases et : rt σ2 s2 with
                  | bad w => rw [et] at ecc; simp only [R.bind] at ecc; cases ecc
                  | ok bo s3 =>
                    rw [et] at ecc
                    refine ⟨m', s2, σ2, st2, bo, s3, et, fun m3 H3 d g3 rel => ?_⟩
                    cases rel
                    have gy3 := gy.trans g'.mt g3
                    cases bo with
                    | false =>
                      simp only [R.bind, Bool.false_eq_true, if_false] at ecc
                      obtain ⟨a1, a2, a3, a4, a5⟩ := stay gy3
                      exact ⟨m3, s3, acc, accV, a1, a2, a3, a4, a5, ecc⟩
                    | true =>
                      simp only [R.bind, if_true] at ecc
                      cases ee : re σ2 s3 with
                      | bad w => rw [ee] at ecc; simp only at ecc; cases ecc
                      | ok y s4 =>
                        rw [ee] at ecc
                        simp only at ecc
                        refine ⟨m3, s3, σ2, st2.go g3, y, s4, ee, fun m4 H4 yv g4 ry => ?_⟩
                        have gy4 := gy3.trans g'.mt g4
                        obtain ⟨a1, a2, a3, a4, a5⟩ := stay gy4
                        by_cases hz : acc.length < sizeL
                        · rw [if_pos hz] at ecc
                          obtain ⟨M5, l5⟩ := Match.off (vs := accV ++ [yv]) a1.mt a4 a5 a2
                          refine ⟨accV, a2, by rw [a3.length]; exact hz, m4, s4, acc ++ [y], accV ++ [yv], ⟨a1.fzm, a1.fzn, a1.len, a1.ag, a1.fr, fun c o e hc => ?_, M5⟩, upd_same, RVs.append (RVs.le l5 _ _ a3) (RVs.one (RV.le l5 _ _ ry)), a4, a5, ecc⟩
                          rw [upd_ne (fun q : c = D => by rw [q, hD] at e; cases e)]
                          exact a1.kp c o e hc
                        · rw [if_neg hz] at ecc; cases ecc
              | _ => rw [eg] at ecc; cases ecc
end
end CS
end CSLc_

section CSSort_
set_option maxRecDepth 100000
set_option maxHeartbeats 1000000
/-! sorted of a tuple of pairs -/
namespace CS
open PySem L2 PyProof.Rows Srt SrtO
section
variable {prog : Program} {w : World} {A : Around} {E : Value → Shared → Prop} {s : Shared}
theorem collect_tup {l : Addr} {vs : List Value} {Q : List Value → Shared → Prop} (hl : IsTup s.heap l vs.toArray)
    (h : Q vs { s with heap := (s.heap.push (seqObj "list" #[] 0)).update s.heap.objs.size (Obj.mapSeq (· ++ vs.toArray)) }) (hsz : vs.length ≤ sizeLine) :
    wpAny (model prog w) A (collect (.ref l)) Q E s := by
  obtain ⟨o, ho, hc, n, hd⟩ := hl
  unfold collect
  refine wpAny_bind (wpAny_runValue (codeAny_builtin entry_proto_collect' ?_))
  show wpAny _ _ (do again (.builtin "list.__iadd__" ⟨[← newList [], .ref l], []⟩)) _ _ s
  refine wpAny_bind (wpAny_newList (wpAny_pure ⟨Code.quiet_builtin _ (by decide +kernel), codeAny_builtin entry_list_iadd' ?_⟩))
  show wpAny _ _ (Builtin.List.listExtendWith (.ref s.heap.objs.size) (.ref l) (.ref s.heap.objs.size)) _ _ { s with heap := s.heap.push (seqObj "list" #[] 0) }
  unfold Builtin.List.listExtendWith
  have ho' : (s.heap.push (seqObj "list" #[] 0)).get? l = some o := Heap.get?_push_of_some _ ho
  refine wpAny_bind (wpAny_typeOf (T := "tuple") ⟨o, ho', hc⟩ ?_)
  have ht : (Value.type "tuple" == Value.type "tuple") = true := by rfl
  rw [if_pos (by rw [ht]; simp)]
  refine wpAny_bind (listItems_at ho' hd ?_)
  refine wpAny_bind (listItems_at (xs := #[]) (n := 0) (Heap.get?_push_size _ rfl) rfl ?_)
  rw [if_neg (by simp)]
  refine wpAny_bind (PyProof.Rows.listUpdate_at (xs := #[]) (n := 0) (Heap.get?_push_size _ rfl) rfl ?_ (Nat.zero_le _) (by show (#[] ++ vs.toArray).size ≤ sizeLine + 1; simp only [Array.size_append, List.size_toArray, List.length_nil]; omega))
  refine wpAny_pure ?_
  show wpAny (model prog w) A (do
      let o ← load s.heap.objs.size
      match o.data with
      | .seq xs _ => pure xs.toList
      | _ => unsupported "internal:collect") Q E { s with heap := (s.heap.push (seqObj "list" #[] 0)).update s.heap.objs.size (Obj.mapSeq (· ++ vs.toArray)) }
  refine wpAny_bind (wpAny_load (get?_update_seq (Heap.get?_push_size _ rfl) _) ?_)
  show wpAny _ _ (pure ((#[] : Array Value) ++ vs.toArray).toList) Q E _
  rw [show ((#[] : Array Value) ++ vs.toArray).toList = vs by simp]
  exact wpAny_pure h
theorem sorted_ordT {l : Addr} {vs : List Value} {ltv : Value → Value → Bool} {Q : Value → Shared → Prop} (O : Swo ltv) (hl : IsTup s.heap l vs.toArray) (hz : vs.length ≤ sizeLine)
    (hS : 2 ≤ vs.length → ∀ (h₁ : Heap) (a : Addr), h₁.get? a = some (seqObj "list" vs.toArray 0) → (∀ b o, s.heap.get? b = some o → b ≠ a ∧ h₁.get? b = some o) → SortableO prog w A.in1.in1 { s with heap := h₁ } a vs ltv)
    (h : ∀ out : List Value, Srtd ltv out → Stb ltv out vs → Q (.ref (s.heap.objs.size + 1)) { s with heap := sortedAll s.heap vs out.toArray }) :
    wpAny (model prog w) A (call (.builtin "sorted") [.ref l]) Q E s := by
  refine Calls.call_function_entry kind_sorted plain_sorted entry_sorted (args_sorted1 _) ?_
  unfold Builtin.«sorted»
  refine wpAny_bind (m := checkCount "sorted" 1 1 _) (wpAny_pure ?_)
  refine wpAny_bind (collect_tup hl ?_ hz)
  refine wpAny_bind (wpAny_newList ?_ hz)
  have hsz : ((s.heap.push (seqObj "list" #[] 0)).update s.heap.objs.size (Obj.mapSeq (· ++ vs.toArray))).objs.size = s.heap.objs.size + 1 := by
    rw [Heap.size_update, size_push']
  have hoL : (((s.heap.push (seqObj "list" #[] 0)).update s.heap.objs.size (Obj.mapSeq (· ++ vs.toArray))).push (seqObj "list" vs.toArray 0)).get? (s.heap.objs.size + 1) = some (seqObj "list" vs.toArray 0) := by
    rw [← hsz]; exact Heap.get?_push_size _ rfl
  have keep : ∀ b o, s.heap.get? b = some o → b ≠ s.heap.objs.size + 1 ∧ (((s.heap.push (seqObj "list" #[] 0)).update s.heap.objs.size (Obj.mapSeq (· ++ vs.toArray))).push (seqObj "list" vs.toArray 0)).get? b = some o := fun b o q => by
    have hlt : b < s.heap.objs.size := Heap.lt_size q
    refine ⟨Nat.ne_of_lt (Nat.lt_succ_of_lt hlt), Heap.get?_push_of_some _ ?_⟩
    rw [Heap.get?_update_ne _ _ _ _ (Nat.ne_of_lt hlt)]
    exact Heap.get?_push_of_some _ q
  show wpAny _ _ _ _ _ { s with heap := ((s.heap.push (seqObj "list" #[] 0)).update s.heap.objs.size (Obj.mapSeq (· ++ vs.toArray))).push (seqObj "list" vs.toArray 0) }
  rw [hsz]
  refine wpAny_bind (wpAny_holding (wpAny_call_entry slot_list_sort ⟨_, hoL, rfl⟩ entry_list_sort (list_sort_ord O hoL hz (fun h2 => hS h2 _ _ hoL keep) fun out hs hb => ⟨_, rfl, ?_⟩) (args_list_sort _)))
  exact wpAny_pure ⟨_, rfl, h out hs hb⟩
theorem sorted_pairsT {l : Addr} {vs : List Value} {k : Value → Int × Int} {Q : Value → Shared → Prop} (hl : IsTup s.heap l vs.toArray) (hz : vs.length ≤ sizeLine) (hp : ∀ v ∈ vs, IsPair s.heap v (k v).1 (k v).2)
    (h : ∀ (h' : Heap) (d : Addr) (out : List Value), Srtd (fun v u => lexB (k v) (k u)) out → Stb (fun v u => lexB (k v) (k u)) out vs → (∀ b o, s.heap.get? b = some o → h'.get? b = some o) → s.heap.objs.size ≤ d → (∃ n, h'.get? d = some (seqObj "list" out.toArray n)) → Q (.ref d) { s with heap := h' }) :
    wpAny (model prog w) A (call (.builtin "sorted") [.ref l]) Q E s := by
  refine sorted_ordT (swo_lex k) hl hz (fun h2 h₁ a ha kk => ?_) fun out hs hb => ?_
  · refine pairs_sortableO (s := { s with heap := h₁ }) (by omega) (fun v hm => (hp v hm).keeps fun b o e _ => (kk b o e).2) fun o e => ?_
    have e' : some o = some (seqObj "list" vs.toArray 0) := e.symm.trans ha
    cases e'
    intro c
    exact absurd (Value.type.inj c) (by decide)
  · exact h _ _ out hs hb (fun b o e => sortedAll_old e) (Nat.le_succ _) (sortedAll_at s.heap vs out.toArray)
end
/-- sorted(xs), xs a tuple of pairs of ints -/
def rSortedPT (K : PySem.W.Frag) : List V → Hp → VK → Prop := fun vs H Q => ∃ (a : Addr) (xs : List V) (k : V → Int × Int), vs = [V.ref a] ∧ SqT K H a xs ∧ (∀ x ∈ xs, ∃ t, x = V.ref t ∧ H t = some (.tup [.int (k x).1, .int (k x).2])) ∧
  ∀ ys p, SrtO.Srtd (ltP k) ys → SrtO.Stb (ltP k) ys xs → H p = none → Q (.ref p) (upd H p (.lst ys))
theorem cr_sortedPT {X : Cx} : CallR X (.builtin "sorted") (rSortedPT X.K) := by
  intro pins s σ H vs us Q I r h
  obtain ⟨a, xs, k, rfl, hs, hx, q⟩ := h
  obtain ⟨its, rv, hl, hz⟩ := I.tuple hs
  obtain ⟨u, rfl, ru⟩ := vals1 r
  obtain rfl : u = Value.ref a := ru
  obtain ⟨e1, e2⟩ := refs_back rv fun x m => by
    obtain ⟨t, e, _⟩ := hx x m
    exact ⟨t, e⟩
  refine sorted_pairsT (k := fun u => k (L2.backV u)) hl (by rw [← rv.length]; exact hz) (fun v hv => ?_) fun h' d out h1 h2 kp hd hn => ?_
  · obtain ⟨t, rfl⟩ := e2 v hv
    have hm : V.ref t ∈ xs := by rw [e1]; exact List.mem_map.mpr ⟨_, hv, rfl⟩
    obtain ⟨t', e, ht⟩ := hx _ hm
    cases e
    obtain ⟨_, its2, r2, o, ho, hc, n, hd⟩ := I.hok _ _ ht
    obtain ⟨u1, u2, rfl, ri, rj⟩ := vals2 r2
    obtain ⟨t1, rfl⟩ := ri
    obtain ⟨t2, rfl⟩ := rj
    exact ⟨t, o, t1, t2, n, rfl, ho, hc, hd⟩
  · have h3 : ∀ u ∈ out, ∃ a, u = Value.ref a := fun u hu => e2 u (h2.perm.mem_iff.mp hu)
    obtain ⟨n, hn⟩ := hn
    have hb : SrtO.Stb (ltP k) (out.map L2.backV) xs := by
      rw [e1]
      exact SrtO.Stb.map (ltP_swo k) L2.backV h2
    refine ⟨.ref d, upd H d (.lst (out.map L2.backV)), I.laid (t' := s.toks) kp hd ⟨?_, out, n, vals_back h3, hn⟩, rfl, q _ d (SrtO.srtd_map h1) hb (I.hok.fresh hd)⟩
    rw [hb.len]
    exact hz
end CS
end CSSort_

section CSPrim4_
set_option maxRecDepth 100000
set_option maxHeartbeats 1000000
namespace CS
open PySem L2
variable {z : Bool}

/-! ### sorted of pairs -/
theorem leP_total (p q : Int × Int) : leP p q = true ∨ leP q p = true := by
  unfold leP
  simp only [Bool.or_eq_true, Bool.and_eq_true, decide_eq_true_eq]
  omega
theorem leP_trans {p q r : Int × Int} (h : leP p q = true) (h' : leP q r = true) : leP p r = true := by
  unfold leP at *
  simp only [Bool.or_eq_true, Bool.and_eq_true, decide_eq_true_eq] at *
  omega
theorem leP_anti {p q : Int × Int} (h : leP p q = true) (h' : leP q p = true) : p = q := by
  unfold leP at *
  simp only [Bool.or_eq_true, Bool.and_eq_true, decide_eq_true_eq] at *
  exact Prod.ext (by omega) (by omega)
theorem insP_perm (p : Int × Int) : ∀ l, (insP p l).Perm (p :: l)
  | [] => List.Perm.refl _
  | q :: l => by
    unfold insP
    split
    · exact List.Perm.refl _
    · exact ((insP_perm p l).cons q).trans (List.Perm.swap p q l)
theorem sortP_perm : ∀ l, (sortP l).Perm l
  | [] => List.Perm.refl _
  | p :: l => (insP_perm p _).trans ((sortP_perm l).cons p)
theorem insP_sorted (p : Int × Int) : ∀ l, l.Pairwise (fun a b => leP a b = true) → (insP p l).Pairwise (fun a b => leP a b = true)
  | [], _ => List.pairwise_singleton _ _
  | q :: l, h => by
    obtain ⟨h1, h2⟩ := List.pairwise_cons.mp h
    unfold insP
    split
    · rename_i hp
      exact List.pairwise_cons.mpr ⟨fun b hb => by
        rcases List.mem_cons.mp hb with e | e
        · rw [e]; exact hp
        · exact leP_trans hp (h1 b e), h⟩
    · rename_i hp
      have hq : leP q p = true := (leP_total p q).resolve_left hp
      exact List.pairwise_cons.mpr ⟨fun b hb => by
        rcases List.mem_cons.mp ((insP_perm p l).mem_iff.mp hb) with e | e
        · rw [e]; exact hq
        · exact h1 b e, insP_sorted p l h2⟩
theorem sortP_sorted : ∀ l, (sortP l).Pairwise (fun a b => leP a b = true)
  | [] => List.Pairwise.nil
  | p :: l => insP_sorted p _ (sortP_sorted l)
theorem sorted_uniq : ∀ {l r : List (Int × Int)}, l.Perm r → l.Pairwise (fun a b => leP a b = true) → r.Pairwise (fun a b => leP a b = true) → l = r
  | [], r, h, _, _ => by rw [List.nil_perm.mp h]
  | p :: l, [], h, _, _ => absurd h.length_eq (by simp)
  | p :: l, q :: r, h, h1, h2 => by
    obtain ⟨a1, a2⟩ := List.pairwise_cons.mp h1
    obtain ⟨b1, b2⟩ := List.pairwise_cons.mp h2
    have e : p = q := by
      have hp : p ∈ q :: r := h.mem_iff.mp (List.mem_cons_self ..)
      have hq : q ∈ p :: l := h.mem_iff.mpr (List.mem_cons_self ..)
      rcases List.mem_cons.mp hp with e | e
      · exact e
      · rcases List.mem_cons.mp hq with e' | e'
        · exact e'.symm
        · exact leP_anti (a1 q e') (b1 p e)
    subst e
    rw [sorted_uniq (List.perm_cons p |>.mp h) a2 b2]
section
variable {B : Nm} {X : Cx}
theorem getPairs_ok {K : PySem.W.Frag} {m : Mp} {n : Nat} {H : Hp} : ∀ {xs : List PV} {ps : List (Int × Int)} {vs : List V}, getPairs xs = some ps → RVs K m n H xs vs →
    Paired (fun v p => ∃ t, v = V.ref t ∧ H t = some (.tup [.int p.1, .int p.2])) vs ps
  | [], ps, vs, e, r => by cases e; rw [show vs = [] from r]; exact .nil
  | x :: xs, ps, vs, e, r => by
    obtain ⟨v, q, rfl, h1, h2⟩ := r
    match x, e, h1 with
    | .tup [.int i, .int j], e, h1 =>
      simp only [getPairs] at e
      obtain ⟨qs, e1, rfl⟩ := Option.map_eq_some_iff.mp e
      obtain ⟨t, us, rfl, ht, hu⟩ := h1
      obtain ⟨y, z, rfl, ry, rz⟩ := rv2 hu
      cases ry; cases rz
      rcases ht with ht | ⟨hn, _⟩
      · exact .cons ⟨t, rfl, ht⟩ (getPairs_ok e1 h2)
      · cases hn
    | .non, e, _ => simp only [getPairs] at e; cases e
    | .bl _, e, _ => simp only [getPairs] at e; cases e
    | .int _, e, _ => simp only [getPairs] at e; cases e
    | .str _, e, _ => simp only [getPairs] at e; cases e
    | .rol _, e, _ => simp only [getPairs] at e; cases e
    | .scr _, e, _ => simp only [getPairs] at e; cases e
    | .obj _ _, e, _ => simp only [getPairs] at e; cases e
    | .ref _, e, _ => simp only [getPairs] at e; cases e
    | .tup [], e, _ => simp only [getPairs] at e; cases e
    | .tup [a], e, _ => cases a <;> (simp only [getPairs] at e; cases e)
    | .tup (a :: b :: c :: d), e, _ => cases a <;> cases b <;> (simp only [getPairs] at e; cases e)
    | .tup [.int _, .non], e, _ => simp only [getPairs] at e; cases e
    | .tup [.int _, .bl _], e, _ => simp only [getPairs] at e; cases e
    | .tup [.int _, .str _], e, _ => simp only [getPairs] at e; cases e
    | .tup [.int _, .tup _], e, _ => simp only [getPairs] at e; cases e
    | .tup [.int _, .rol _], e, _ => simp only [getPairs] at e; cases e
    | .tup [.int _, .scr _], e, _ => simp only [getPairs] at e; cases e
    | .tup [.int _, .obj _ _], e, _ => simp only [getPairs] at e; cases e
    | .tup [.int _, .ref _], e, _ => simp only [getPairs] at e; cases e
    | .tup [.non, b], e, _ => cases b <;> (simp only [getPairs] at e; cases e)
    | .tup [.bl _, b], e, _ => cases b <;> (simp only [getPairs] at e; cases e)
    | .tup [.str _, b], e, _ => cases b <;> (simp only [getPairs] at e; cases e)
    | .tup [.tup _, b], e, _ => cases b <;> (simp only [getPairs] at e; cases e)
    | .tup [.rol _, b], e, _ => cases b <;> (simp only [getPairs] at e; cases e)
    | .tup [.scr _, b], e, _ => cases b <;> (simp only [getPairs] at e; cases e)
    | .tup [.obj _ _, b], e, _ => cases b <;> (simp only [getPairs] at e; cases e)
    | .tup [.ref _, b], e, _ => cases b <;> (simp only [getPairs] at e; cases e)
theorem getPairs_map {K : PySem.W.Frag} {H : Hp} {k : V → Int × Int} : ∀ {vs : List V} {ps : List (Int × Int)}, Paired (fun v p => ∃ t, v = V.ref t ∧ H t = some (.tup [.int p.1, .int p.2])) vs ps → (∀ v p t, v = V.ref t → H t = some (.tup [.int p.1, .int p.2]) → k v = p) → ps = vs.map k
  | _, _, .nil, _ => rfl
  | _, _, .cons ⟨t, e1, e2⟩ r, h => by rw [List.map_cons, h _ _ t e1 e2, getPairs_map (K := K) r h]
theorem kon_sorted {m : Mp} {s : SH} {H : Hp} {vs : List PV} {xs : List V} {Q : VK} (M : Match B X.K m s H) (r : RVs X.K m s.length H vs xs) (k : Kon B X.K (RV X.K) (effO z (prim s .sorted vs) s 31) m s H Q) : rSortedPO X.K xs H Q ∨ rSortedPT X.K xs H Q := by
  obtain ⟨a, f0, kk⟩ := Kon.effO k
  obtain ⟨v, e0, e⟩ := Option.bind_eq_some_iff.mp f0
  have := one_eq e0; subst this
  obtain ⟨x, rfl, rx⟩ := rv1 r
  obtain ⟨ys, e1, e2⟩ := Option.bind_eq_some_iff.mp e
  obtain ⟨ps, e3, rfl⟩ := Option.map_eq_some_iff.mp e2
  obtain ⟨p, us, rfl, hp, rr⟩ := seqOf_ok M e1 rx
  have pr := getPairs_ok e3 rr
  -- the key of a pair, read off the heap
  let kf : V → Int × Int := fun v => match v with
    | .ref t => (match H t with | some (.tup [.int i, .int j]) => (i, j) | _ => (0, 0))
    | _ => (0, 0)
  have hk : ∀ v p t, v = V.ref t → H t = some (.tup [.int p.1, .int p.2]) → kf v = p := fun v p t e1 e2 => by
    subst e1
    show (match H t with | some (.tup [.int i, .int j]) => (i, j) | _ => (0, 0)) = p
    rw [e2]
  have hps : ps = us.map kf := getPairs_map (K := X.K) pr hk
  have hmem : ∀ u ∈ us, ∃ t, u = V.ref t ∧ H t = some (.tup [.int (kf u).1, .int (kf u).2]) := by
    clear hps e3 rr hp e e2 rx r k kk f0 e0
    induction pr with
    | nil => intro u hu; cases hu
    | cons h t ih =>
      obtain ⟨a, ea, eb⟩ := h
      intro u hu
      rcases List.mem_cons.mp hu with e | e
      · rw [e, hk _ _ a ea eb]; exact ⟨a, ea, eb⟩
      · exact ih u e
  suffices hh : ∀ zs q, SrtO.Srtd (ltP kf) zs → SrtO.Stb (ltP kf) zs us → H q = none → Q (.ref q) (upd H q (.lst zs)) by
    rcases hp with hp | hp
    · exact .inl ⟨p, us, kf, rfl, hp, hmem, hh⟩
    · exact .inr ⟨p, us, kf, rfl, hp, hmem, hh⟩
  intro zs q hs hst hq
  refine Kon.lst M kk ?_ hq
  -- sorted zs is sortP ps
  have pm : zs.Perm us := hst.perm
  have srt : (zs.map kf).Pairwise (fun a b => leP a b = true) := by
    refine List.pairwise_map.mpr (List.Pairwise.imp (fun {a b} h => ?_) hs)
    have h : ltP kf b a = false := h
    unfold ltP at h
    have := SrtO.lexB_no.mp h
    unfold leP
    simp only [Bool.or_eq_true, Bool.and_eq_true, decide_eq_true_eq]
    omega
  have e9 : sortP ps = zs.map kf := sorted_uniq ((sortP_perm ps).trans (by rw [hps]; exact (pm.map kf).symm)) (sortP_sorted ps) srt
  rw [e9, List.map_map]
  have hz : ∀ u ∈ zs, ∃ t, u = V.ref t ∧ H t = some (.tup [.int (kf u).1, .int (kf u).2]) := fun u hu => hmem u (pm.mem_iff.mp hu)
  clear e9 srt pm hs hst
  induction zs with
  | nil => rfl
  | cons u zs ih =>
    obtain ⟨t, e1, e2⟩ := hz u (List.mem_cons_self ..)
    exact ⟨u, zs, rfl, ⟨t, _, e1, .inl e2, RVs.two rfl rfl⟩, ih fun w hw => hz w (List.mem_cons_of_mem _ hw)⟩
end
end CS
end CSPrim4_

section CSPrim5_
set_option maxRecDepth 100000
set_option maxHeartbeats 1000000
namespace CS
open PySem L2
variable {z : Bool}

section
variable {B : Nm} {X : Cx} {a t : Expr} {es : List Expr} {pos p : Pos} {ra : Sl → SH → R PV} {x : Str}
theorem isTys_ne {s : SH} {n : Nat} {ts : List Ty} {b : Bool} (h : s[n]? = none) (e : isTys s (.ref n) ts = some b) (hne : ts ≠ []) : False := by
  cases ts with
  | nil => exact hne rfl
  | cons t ts =>
    simp only [isTys] at e
    have : isTy s t (.ref n) = none := by cases t <;> simp only [isTy, h]
    rw [this] at e; cases e
/-- isinstance(a, T) -/
theorem se_isi {T : Ty} (KO : KitOk B X.K) (hT : tyIn B T) (ha : SE B X a ra) (ht : PE X t (tC (tyVal B T))) (hg : Gl X "isinstance") (hm : X.mg "isinstance" = none) (hp : plainArgs [a, t] = true) :
    SE B X (.Call (.Name "isinstance" p) [a, t] [] pos) (fun σ s => ((ra σ s).bind fun x s => (R.ok [] s).bind fun xs s => R.ok (x :: xs) s).bind fun vs s => effO z (prim s (.isi [T]) vs) s 31) := by
  have h1 := plain_cons hp
  have h2 := plain_cons h1.2
  have hA : PA X [a, t] _ := pa_cons ha (pa_cons ht pa_nil (star_plain h2.1)) (star_plain h1.1)
  refine (pe_callB call_isi hg hm PyProof.Rows.boot_isinstance hA (by decide) (by decide) (star_plain h1.1) (star_any h1.2)).imp fun τ H Q ⟨m, s, σ, sk, k⟩ => ?_
  cases e0 : ra σ s with
  | bad w => simp only [e0, R.bind] at k; exact (Kon.bad k).elim
  | ok v s1 =>
    simp only [e0, R.bind] at k
    obtain ⟨w, s2, e2, k2⟩ := k
    refine ⟨m, s, σ, sk, v, s1, e0, fun m1 H1 x g rv => ?_⟩
    have kk : Kon B X.K (RV X.K) (effO z (prim s1 (.isi [T]) [v]) s1 31) m1 s1 H1 Q := ⟨w, s2, e2, fun m2 H2 y g2 r2 => k2 m2 H2 y (g.trans sk.mt g2) r2⟩
    obtain ⟨eff, f0, k3⟩ := Kon.effO kk
    simp only [prim, one, Option.bind_some] at f0
    obtain ⟨b, e3, rfl⟩ := Option.map_eq_some_iff.mp f0
    rcases ty_ok KO g.mt rv with ⟨n, rfl, hn⟩ | ⟨tx, htx, _, hall⟩
    · exact (isTys_ne hn e3 (by simp)).elim
    · refine ⟨x, tyVal B T, tx, tyValue B T, b, rfl, ty_cls B T, htx, ?_, Kon.val g.mt k3 rfl⟩
      have : isTy s1 T v = some b := by
        simp only [isTys] at e3
        cases e4 : isTy s1 T v with
        | none => rw [e4] at e3; cases e3
        | some d => rw [e4] at e3; cases d <;> exact e3
      exact hall T hT b this
/-- isinstance(a, (T, ..)) -/
inductive TysAt (B : Nm) (X : Cx) : List Expr → List Ty → Prop where
  | nil : TysAt B X [] []
  | cons {e : Expr} {es : List Expr} {T : Ty} {Ts : List Ty} (h : PE X e (tC (tyVal B T))) (hp : PySem.W.isStarred e = false) (r : TysAt B X es Ts) : TysAt B X (e :: es) (T :: Ts)
def tTys (B : Nm) : List Ty → TA
  | [] => tNil
  | T :: Ts => tCons (tC (tyVal B T)) (tTys B Ts)
theorem TysAt.pa : ∀ {es : List Expr} {Ts : List Ty}, TysAt B X es Ts → PA X es (tTys B Ts)
  | _, _, .nil => pa_nil
  | _, _, .cons h hp r => pa_cons h (TysAt.pa r) (star_plain hp)
theorem tTys_run : ∀ (Ts : List Ty) (τ : St) (H : Hp) (Q : List V → Hp → Prop), Q (Ts.map (tyVal B)) H → tTys B Ts τ H Q
  | [], _, _, _, q => q
  | T :: Ts, τ, H, Q, q => tTys_run Ts τ H (fun xs H2 => Q (tyVal B T :: xs) H2) q
theorem se_isiT {Ts : List Ty} {k0 : Nat} {tpos : Pos} (KO : KitOk B X.K) (hT : ∀ T ∈ Ts, tyIn B T) (hne : Ts ≠ []) (hlen : Ts.length ≤ sizeLine) (ha : SE B X a ra) (ht : TysAt B X es Ts) (hg : Gl X "isinstance") (hm : X.mg "isinstance" = none) (hp : PySem.W.isStarred a = false) :
    SE B X (.Call (.Name "isinstance" p) [a, .Tuple es k0 tpos] [] pos) (fun σ s => ((ra σ s).bind fun x s => (R.ok [] s).bind fun xs s => R.ok (x :: xs) s).bind fun vs s => effO z (prim s (.isi Ts) vs) s 31) := by
  have hA : PA X [a, .Tuple es k0 tpos] _ := pa_cons ha (pa_cons (pe_tup ht.pa) pa_nil rfl) (star_plain hp)
  refine (pe_callB call_isiT hg hm PyProof.Rows.boot_isinstance hA (by decide) (by decide) (star_plain hp) rfl).imp fun τ H Q ⟨m, s, σ, sk, k⟩ => ?_
  cases e0 : ra σ s with
  | bad w => simp only [e0, R.bind] at k; exact (Kon.bad k).elim
  | ok v s1 =>
    simp only [e0, R.bind] at k
    obtain ⟨w, s2, e2, k2⟩ := k
    refine ⟨m, s, σ, sk, v, s1, e0, fun m1 H1 x g rv => ?_⟩
    refine tTys_run Ts τ H1 _ ⟨by rw [List.length_map]; exact hlen, fun tp htp => ?_⟩
    have gt := Go.upd (B := B) (o := .tup (Ts.map (tyVal B))) g.mt htp
    have g2 := g.trans sk.mt gt
    have rv2 := RV.le (gt.le g.mt) _ _ rv
    have kk : Kon B X.K (RV X.K) (effO z (prim s1 (.isi Ts) [v]) s1 31) m1 s1 (upd H1 tp (.tup (Ts.map (tyVal B)))) Q := ⟨w, s2, e2, fun m2 H2 y g3 r2 => k2 m2 H2 y (g2.trans sk.mt g3) r2⟩
    obtain ⟨eff, f0, k3⟩ := Kon.effO kk
    simp only [prim, one, Option.bind_some] at f0
    obtain ⟨b, e3, rfl⟩ := Option.map_eq_some_iff.mp f0
    rcases ty_ok KO gt.mt rv2 with ⟨n, rfl, hn⟩ | ⟨tx, htx, _, hall⟩
    · exact (isTys_ne hn e3 hne).elim
    · refine ⟨x, tp, Ts.map (tyVal B), tx, Ts.map (tyValue B), b, rfl, upd_same, ?_, htx, kitAny_ok hall hT e3, Kon.val gt.mt k3 rfl⟩
      exact tys_paired B Ts
end
end CS
end CSPrim5_

section CSPrim6_
set_option maxRecDepth 100000
set_option maxHeartbeats 1000000
namespace CS
open PySem L2
variable {z : Bool}
section
variable {B : Nm} {X : Cx} {o a : Expr} {es : List Expr} {pos p apos : Pos} {ra ro : Sl → SH → R PV} {rs : Sl → SH → R (List PV)} {x : Str}
theorem list_ty {K : PySem.W.Frag} {m : Mp} {s : SH} {H : Hp} {v : PV} {x : V} (M : Match B K m s H) (h : (lstOf s v).isSome = true) (r : RV K m s.length H v x) : tyV K "list" x H := by
  obtain ⟨ys, e⟩ := Option.isSome_iff_exists.mp h
  obtain ⟨p, us, rfl, hp, rr⟩ := lstOf_ok M e r
  exact .inl ⟨rfl, us, hp⟩
theorem few_ok {es : List Expr} {env : Env} {cpos : Pos} (hp : plainArgs es = true) (hl : es.length < 30) :
    ((backTo cpos (starEach es env)).all (fun x => !x.1) && (backToKw cpos (keywordEach [] env)).all (fun x => x.1.isSome) && decide (es.length + ([] : List Keyword).length + (if ([] : List Keyword).isEmpty then 0 else 1) < 30)) = true := by
  have h1 : (backTo cpos (starEach es env)).all (fun x => !x.1) = true := by
    have := star_any (pos := cpos) (env := env) hp
    rw [List.all_eq_true]
    intro y hy
    have hn : (backTo cpos (starEach es env)).any (·.1) = false := this
    rw [List.any_eq_false] at hn
    have := hn y hy
    simpa using this
  rw [h1]
  have h2 : decide (es.length + ([] : List Keyword).length + (if ([] : List Keyword).isEmpty then 0 else 1) < 30) = true := by simp; omega
  rw [h2]
  rfl
/-- l.append(a) -/
theorem se_append (ho : SE B X o ro) (ha : SE B X a ra) (hbase : attributeBase o "append" X.env (eval o X.env) = eval o X.env) (hline : (apos.endLine == pos.line) = true) (hp : plainArgs [a] = true) :
    SE B X (.Call (.Attribute o "append" apos) [a] [] pos) (fun σ s => (ro σ s).bind fun x s => if bmTy s .append x then ((ra σ s).bind fun x s => (R.ok [] s).bind fun xs s => R.ok (x :: xs) s).bind fun vs s => effO z (prim s .append (x :: vs)) s 31 else .bad 53) := by
  have h1 := plain_cons hp
  have hA : SA B X [a] _ := sa_cons ha sa_nil (star_plain h1.1)
  refine (pe_bm PySem.F.plainAttrs_list PySem.F.slot_list_append PySem.F.type_list_append mt_append ho hA hbase (few_ok hp (by simp)) hline (star_plain h1.1) rfl).imp fun τ H Q ⟨m, s, σ, sk, k⟩ => ?_
  refine TEi.bind (f := fun σ x s => if bmTy s .append x then ((ra σ s).bind fun x s => (R.ok [] s).bind fun xs s => R.ok (x :: xs) s).bind fun vs s => effO z (prim s .append (x :: vs)) s 31 else .bad 53) sk k fun v s1 m1 H1 x g1 st1 rv k1 => ?_
  by_cases hb : bmTy s1 .append v = true
  · rw [if_pos hb] at k1
    refine ⟨list_ty st1.mt hb rv, ?_⟩
    refine TAi.bind (f := fun σ vs s => effO z (prim s .append (v :: vs)) s 31) st1 k1 fun vs s2 m2 H2 xs g2 st2 rvs k2 => ?_
    obtain ⟨eff, f0, k3⟩ := Kon.effO k2
    obtain ⟨q, e1, f1⟩ := Option.bind_eq_some_iff.mp f0
    have e2 := two_eq e1
    cases e2
    obtain ⟨y, rfl, ry⟩ := rv1 rvs
    split at f1
    · rename_i n hq
      split at f1
      · rename_i ys hc
        split at f1
        · rename_i hl
          cases f1
          rw [hq] at rv
          obtain ⟨us, eH, rr⟩ := st2.mt.cl n _ hc
          have rv2 := RV.le (g2.le st1.mt) _ _ rv
          refine ⟨m2 n, us, y, rv2.2, rfl, eH, by rw [rr.length]; exact hl, ?_⟩
          exact Kon.wrL st2.mt hc eH k3 (RVs.append rr (RVs.one ry)) rfl
        · cases f1
      · cases f1
    · cases f1
  · rw [if_neg hb] at k1; exact (Kon.bad k1).elim
/-- l.pop(a) -/
theorem se_pop (ho : SE B X o ro) (ha : SE B X a ra) (hbase : attributeBase o "pop" X.env (eval o X.env) = eval o X.env) (hline : (apos.endLine == pos.line) = true) (hp : plainArgs [a] = true) :
    SE B X (.Call (.Attribute o "pop" apos) [a] [] pos) (fun σ s => (ro σ s).bind fun x s => if bmTy s .pop x then ((ra σ s).bind fun x s => (R.ok [] s).bind fun xs s => R.ok (x :: xs) s).bind fun vs s => effO z (prim s .pop (x :: vs)) s 31 else .bad 53) := by
  have h1 := plain_cons hp
  have hA : SA B X [a] _ := sa_cons ha sa_nil (star_plain h1.1)
  refine (pe_bm PySem.F.plainAttrs_list PySem.F.slot_list_pop PySem.F.type_list_pop mt_popAt ho hA hbase (few_ok hp (by simp)) hline (star_plain h1.1) rfl).imp fun τ H Q ⟨m, s, σ, sk, k⟩ => ?_
  refine TEi.bind (f := fun σ x s => if bmTy s .pop x then ((ra σ s).bind fun x s => (R.ok [] s).bind fun xs s => R.ok (x :: xs) s).bind fun vs s => effO z (prim s .pop (x :: vs)) s 31 else .bad 53) sk k fun v s1 m1 H1 x g1 st1 rv k1 => ?_
  by_cases hb : bmTy s1 .pop v = true
  · rw [if_pos hb] at k1
    refine ⟨list_ty st1.mt hb rv, ?_⟩
    refine TAi.bind (f := fun σ vs s => effO z (prim s .pop (v :: vs)) s 31) st1 k1 fun vs s2 m2 H2 xs g2 st2 rvs k2 => ?_
    obtain ⟨eff, f0, k3⟩ := Kon.effO k2
    obtain ⟨q, e1, f1⟩ := Option.bind_eq_some_iff.mp f0
    have e2 := two_eq e1
    cases e2
    obtain ⟨i, e3, f2⟩ := Option.bind_eq_some_iff.mp f1
    obtain ⟨y, rfl, ry⟩ := rv1 rvs
    have e4 := asI_eq e3
    rw [e4] at ry
    cases ry
    split at f2
    · rename_i n hq
      split at f2
      · rename_i ys hc
        split at f2
        · rename_i hl
          simp only [lim63_iff, Bool.and_eq_true, decide_eq_true_eq] at hl
          obtain ⟨j, e5, f3⟩ := Option.bind_eq_some_iff.mp f2
          obtain ⟨u, e6, rfl⟩ := Option.map_eq_some_iff.mp f3
          rw [hq] at rv
          obtain ⟨us, eH, rr⟩ := st2.mt.cl n _ hc
          have rv2 := RV.le (g2.le st1.mt) _ _ rv
          obtain ⟨z, e7, rz⟩ := rr.get e6
          refine ⟨m2 n, us, i, j, z, rv2.2, rfl, eH, by omega, by omega, ?_, e7, ?_⟩
          · rw [rr.length]
            exact (ixN_seq (n := ys.length) (i := i) (j := j) (by rw [← ixN_eq]; exact e5)).1
          · exact Kon.wrL st2.mt hc eH k3 (RVs.erase j rr) rz
        · cases f2
      · cases f2
    · cases f2
  · rw [if_neg hb] at k1; exact (Kon.bad k1).elim
theorem joinS_eq (sep : Str) : ∀ ss : List Str, joinS sep ss = Txt.join sep ss := by
  intro ss
  rw [show Txt.join sep ss = Str.join sep ss from TL.join_eq sep ss]
  induction ss with
  | nil => rfl
  | cons x r ih =>
    cases r with
    | nil => rfl
    | cons y r => simp only [joinS]; rw [ih]; rfl
/-- sep.join(a) -/
theorem se_join (ho : SE B X o ro) (ha : SE B X a ra) (hbase : attributeBase o "join" X.env (eval o X.env) = eval o X.env) (hline : (apos.endLine == pos.line) = true) (hp : plainArgs [a] = true) :
    SE B X (.Call (.Attribute o "join" apos) [a] [] pos) (fun σ s => (ro σ s).bind fun x s => if bmTy s .join x then ((ra σ s).bind fun x s => (R.ok [] s).bind fun xs s => R.ok (x :: xs) s).bind fun vs s => effO z (prim s .join (x :: vs)) s 31 else .bad 53) := by
  have h1 := plain_cons hp
  refine (pe_join ho ha (star_plain h1.1) hbase hline).imp fun τ H Q ⟨m, s, σ, sk, k⟩ => ?_
  refine TEi.bind (f := fun σ x s => if bmTy s .join x then ((ra σ s).bind fun x s => (R.ok [] s).bind fun xs s => R.ok (x :: xs) s).bind fun vs s => effO z (prim s .join (x :: vs)) s 31 else .bad 53) sk k fun v s1 m1 H1 x g1 st1 rv k1 => ?_
  by_cases hb : bmTy s1 .join v = true
  · rw [if_pos hb] at k1
    cases v with
    | str sep =>
      cases rv
      refine ⟨⟨sep, rfl⟩, ?_⟩
      cases e0 : ra σ s1 with
      | bad w => simp only [e0, R.bind] at k1; exact (Kon.bad k1).elim
      | ok w s2 =>
        simp only [e0, R.bind] at k1
        obtain ⟨u, s3, e3, k3⟩ := k1
        refine ⟨m1, s1, σ, st1, w, s2, e0, fun m2 H2 y g2 ry => ?_⟩
        have kk : Kon B X.K (RV X.K) (effO z (prim s2 .join [.str sep, w]) s2 31) m2 s2 H2 Q := ⟨u, s3, e3, fun m3 H3 z g3 r3 => k3 m3 H3 z (g2.trans st1.mt g3) r3⟩
        obtain ⟨eff, f0, k4⟩ := Kon.effO kk
        simp only [prim, pJoin, two, Option.bind_some] at f0
        obtain ⟨ys, f1, f2⟩ := Option.bind_eq_some_iff.mp f0
        obtain ⟨ss, f3, f4⟩ := Option.bind_eq_some_iff.mp f2
        split at f4
        · rename_i hz
          cases f4
          obtain ⟨p, us, rfl, hp, rr⟩ := lstOf_ok g2.mt f1 ry
          have := getStrs_ok f3 rr
          subst this
          refine ⟨sep, p, ss, rfl, rfl, .inl hp, hz, ?_⟩
          rw [← joinS_eq]
          exact Kon.val g2.mt k4 rfl
        · cases f4
    | _ => simp only [bmTy] at hb; cases hb
  · rw [if_neg hb] at k1; exact (Kon.bad k1).elim
/-! ### f-strings -/
/-- the parts -/
inductive FsAt (B : Nm) (X : Cx) : List Expr → List (Sl → SH → R PV) → Prop where
  | nil : FsAt B X [] []
  | txt {z : Str} {j : Nat} {pos : Pos} {es : List Expr} {rs : List (Sl → SH → R PV)} (r : FsAt B X es rs) : FsAt B X (.Constant (.str z) j pos :: es) ((fun _ s => .ok (.str z) s) :: rs)
  | fmt {e : Expr} {pos : Pos} {es : List Expr} {ra : Sl → SH → R PV} {rs : List (Sl → SH → R PV)} (h : SE B X e ra) (r : FsAt B X es rs) : FsAt B X (.FormattedValue e (-1) none pos :: es) (ra :: rs)
/-- the parts' values -/
def evl : List (Sl → SH → R PV) → Sl → SH → R (List PV)
  | [], _, s => .ok [] s
  | r :: rs, σ, s => (r σ s).bind fun x s => (evl rs σ s).bind fun xs s => .ok (x :: xs) s
theorem len_app (a b : Str) : (a ++ b).length = a.length + b.length := by
  show (a.cps ++ b.cps).size = _
  rw [Array.size_append]; rfl
theorem FsAt.pj : ∀ {es : List Expr} {rs : List (Sl → SH → R PV)}, FsAt B X es rs → ∃ ts, PJ X es ts ∧ ∀ {τ : St} {m : Mp} {s : SH} {H : Hp} {σ : Sl} {acc : Str} {vs : List PV} {ss : List Str} {s' : SH} {Q : Str → Hp → Prop}, StOk B X.K m s H σ τ → evl rs σ s = .ok vs s' → vs.mapM fmtS = some ss → acc.length + sizeS ss ≤ sizeLine →
      (∀ m' H', Go B X.K m s H m' s' H' → Q (ss.foldl (· ++ ·) acc) H') → tJs ts acc τ H Q
  | _, _, .nil => ⟨[], .nil, fun {τ m s H σ acc vs ss s' Q} sk e e2 hz q => by
      cases e
      have := mapM_nil' e2
      subst this
      exact q m H (Go.refl sk.mt)⟩
  | _, _, .txt (z := z) r => by
    obtain ⟨ts, pj, run⟩ := FsAt.pj r
    refine ⟨tC (.str z) :: ts, .cons pe_str pj, fun {τ m s H σ acc vs ss s' Q} sk e e2 hz q => ?_⟩
    simp only [evl, R.bind] at e
    split at e
    · rename_i ws s1 e1
      simp only [R.ok.injEq] at e
      obtain ⟨rfl, rfl⟩ := e
      obtain ⟨y, r2, rfl, f1, f2⟩ := mapM_cons' e2
      simp only [fmtS, Option.some.injEq] at f1
      subst f1
      have hz2 : acc.length + (z.length + sizeS r2) ≤ sizeLine := hz
      refine ⟨z, rfl, by rw [len_app]; omega, run sk e1 f2 (by rw [len_app]; omega) q⟩
    · cases e
  | _, _, .fmt (ra := ra) h r => by
    obtain ⟨ts, pj, run⟩ := FsAt.pj r
    refine ⟨tFmt (TEi B X.K ra) :: ts, .cons (pe_fmt h) pj, fun {τ m s H σ acc vs ss s' Q} sk e e2 hz q => ?_⟩
    simp only [evl] at e
    cases e0 : ra σ s with
    | bad w => rw [e0] at e; cases e
    | ok v s1 =>
      rw [e0] at e
      simp only [R.bind] at e
      split at e
      · rename_i ws s2 e1
        simp only [R.ok.injEq] at e
        obtain ⟨rfl, rfl⟩ := e
        obtain ⟨y, r2, rfl, f1, f2⟩ := mapM_cons' e2
        have hz2 : acc.length + (y.length + sizeS r2) ≤ sizeLine := hz
        refine ⟨m, s, σ, sk, v, s1, e0, fun m1 H1 x g rv => ?_⟩
        have fin : tJs ts (acc ++ y) τ H1 Q := run (sk.go g) e1 f2 (by rw [len_app]; omega) fun m2 H2 g2 => q m2 H2 (g.trans sk.mt g2)
        cases v with
        | str z =>
          simp only [fmtS, Option.some.injEq] at f1
          subst f1
          cases rv
          exact .inl ⟨z, rfl, by omega, z, rfl, by rw [len_app]; omega, fin⟩
        | int j =>
          simp only [fmtS, strI] at f1
          split at f1
          · rename_i hj
            simp only [Option.some.injEq] at f1
            subst f1
            cases rv
            exact .inr ⟨j, rfl, hj, _, rfl, by rw [len_app]; have hz3 : acc.length + ((Str.ofString (toString j)).length + sizeS r2) ≤ sizeLine := hz2; omega, fin⟩
          · cases f1
        | _ => cases f1
      · cases e
theorem se_fstr {rs : List (Sl → SH → R PV)} (h : FsAt B X es rs) (hl : 2 ≤ es.length) : SE B X (.JoinedStr es pos) (fun σ s => (evl rs σ s).bind fun vs s => effO z (prim s .fmt vs) s 31) := by
  obtain ⟨ts, pj, run⟩ := h.pj
  match es, hl, pj with
  | e1 :: e2 :: es, _, pj =>
    refine (pe_joined pj).imp fun τ H Q ⟨m, s, σ, sk, k⟩ => ?_
    cases e0 : evl rs σ s with
    | bad w => simp only [e0, R.bind] at k; exact (Kon.bad k).elim
    | ok vs s1 =>
      simp only [e0, R.bind] at k
      obtain ⟨w, s2, e2, k2⟩ := k
      cases f0 : prim s1 .fmt vs with
      | none => rw [f0] at e2; cases e2
      | some eff =>
        rw [f0] at e2
        simp only [prim] at f0
        obtain ⟨ss, f1, f2⟩ := Option.bind_eq_some_iff.mp f0
        split at f2
        · rename_i hz
          simp only [Option.some.injEq] at f2
          subst f2
          simp only [effO, apE, R.ok.injEq] at e2
          obtain ⟨rfl, rfl⟩ := e2
          have h0 : Str.empty.length = 0 := rfl
          exact run sk e0 f1 (by rw [h0, Nat.zero_add]; exact hz) fun m' H' g => k2 m' H' _ g rfl
        · cases f2
end
end CS
end CSPrim6_

section CSPrim7_
set_option maxRecDepth 100000
set_option maxHeartbeats 1000000
namespace CS
open PySem L2
variable {z : Bool}
section
variable {B : Nm} {X : Cx}
/-! ### sums, least and greatest ones of lists and tuples -/
def rSumT (K : PySem.W.Frag) : List V → Hp → VK → Prop := fun vs H Q => ∃ (a : Addr) (ns : List Int), vs = [V.ref a] ∧ SqT K H a (ns.map V.int) ∧ Q (.int ns.sum) H
theorem cr_sumT (hc : X.calm = true) : CallR X (.builtin "sum") (rSumT X.K) := by
  intro pins s σ H vs us Q I r h
  obtain ⟨a, ns, rfl, hs, q⟩ := h
  obtain ⟨its, rv, hl, _⟩ := I.tuple hs
  rw [Vals.ref1 r]
  have hi := rv.ints
  obtain ⟨xs, e⟩ := hi.allInts.items
  have hn : numsOf (intItems xs).toList = ns := by rw [← e]; exact hi.numsOf
  rw [nums_intItems] at hn
  have ht : s.heap.IsTuple a its.toArray := hl
  rw [e] at ht
  refine PySem.W.ktm_sumG (I.ok.hd hc) ht fun h' tk t' hk => ?_
  rw [preSum_eq, List.take_of_length_le (by simp), hn]
  exact ⟨.int _, H, I.kept hk, ⟨_, rfl⟩, q⟩
theorem kon_sum {m : Mp} {s : SH} {H : Hp} {vs : List PV} {xs : List V} {Q : VK} (M : Match B X.K m s H) (r : RVs X.K m s.length H vs xs) (k : Kon B X.K (RV X.K) (effO z (prim s .sum vs) s 31) m s H Q) : rSum X.K xs H Q ∨ rSumT X.K xs H Q := by
  obtain ⟨a, f0, kk⟩ := Kon.effO k
  obtain ⟨v, e0, e⟩ := Option.bind_eq_some_iff.mp f0
  have := one_eq e0; subst this
  obtain ⟨x, rfl, rx⟩ := rv1 r
  obtain ⟨ys, e1, e2⟩ := Option.bind_eq_some_iff.mp e
  obtain ⟨is, e3, rfl⟩ := Option.map_eq_some_iff.mp e2
  obtain ⟨p, us, rfl, hp, rr⟩ := seqOf_ok M e1 rx
  have := getInts_ok e3 rr
  subst this
  rcases hp with hp | hp
  · exact .inl ⟨p, is, rfl, hp, Kon.val M kk rfl⟩
  · exact .inr ⟨p, is, rfl, hp, Kon.val M kk rfl⟩
theorem CallR.or {f : Value} {r r' : List V → Hp → VK → Prop} (h : CallR X f r) (h' : CallR X f r') : CallR X f (fun xs H Q => r xs H Q ∨ r' xs H Q) := by
  intro pins s σ H vs us Q I rv q
  rcases q with q | q
  · exact h pins s σ H vs us Q I rv q
  · exact h' pins s σ H vs us Q I rv q
theorem reads_ints {h : Heap} : ∀ {its : List Value} {ns : List Int}, Vals (ns.map V.int) its → ReadsAll h its (ns.map PyData.int) []
  | _, [], r => by cases r; exact .nil
  | _, n :: ns, r => by
    cases r with
    | cons r1 r2 =>
      obtain ⟨t, rfl⟩ := r1
      have := ReadsAll.cons (Reads.int (h := h) n t) (reads_ints r2)
      simpa using this
theorem alike_ints (ns : List Int) : PySem.W.AlikeAll (ns.map PyData.int) := by
  refine ⟨fun x hx y hy => ?_, fun x hx => ?_⟩
  · obtain ⟨i, _, rfl⟩ := List.mem_map.mp hx
    obtain ⟨j, _, rfl⟩ := List.mem_map.mp hy
    rfl
  · obtain ⟨i, _, rfl⟩ := List.mem_map.mp hx
    intro q; cases q
theorem depth_ints : ∀ ns : List Int, PyData.depthAll (ns.map PyData.int) = 0
  | [] => rfl
  | n :: ns => by simp only [List.map_cons, PyData.depthAll, PyData.depth, depth_ints ns]; rfl
def rMinT (K : PySem.W.Frag) : List V → Hp → VK → Prop := fun vs H Q => ∃ (a : Addr) (n : Int) (ns : List Int), vs = [V.ref a] ∧ SqT K H a ((n :: ns).map V.int) ∧ Q (.int (ns.foldl min n)) H
def rMaxT (K : PySem.W.Frag) : List V → Hp → VK → Prop := fun vs H Q => ∃ (a : Addr) (n : Int) (ns : List Int), vs = [V.ref a] ∧ SqT K H a ((n :: ns).map V.int) ∧ Q (.int (ns.foldl max n)) H
theorem cr_minT (hc : X.calm = true) (hu : X.A.units + 64 < cLine) : CallR X (.builtin "min") (rMinT X.K) := by
  intro pins s σ H vs us Q I r h
  obtain ⟨a, n, ns, rfl, hs, q⟩ := h
  obtain ⟨its, rv, hl, _⟩ := I.tuple hs
  rw [Vals.ref1 r]
  refine PySem.W.min_tuple_data (x := .int n) (xs := ns.map PyData.int) (I.ok.hd hc) (show s.heap.IsTuple a its.toArray from hl) (reads_ints (ns := n :: ns) rv) (alike_ints (n :: ns)) (by
    have := depth_ints (n :: ns)
    rw [show PyData.int n :: ns.map PyData.int = (n :: ns).map PyData.int from rfl, this]
    omega) fun i v h' tk bs hv hr hk => ?_
  rw [PySem.W.minD_ints] at hr
  cases hr
  exact ⟨.int _, H, I.kept hk, ⟨_, rfl⟩, q⟩
theorem cr_maxT (hc : X.calm = true) (hu : X.A.units + 64 < cLine) : CallR X (.builtin "max") (rMaxT X.K) := by
  intro pins s σ H vs us Q I r h
  obtain ⟨a, n, ns, rfl, hs, q⟩ := h
  obtain ⟨its, rv, hl, _⟩ := I.tuple hs
  rw [Vals.ref1 r]
  refine PySem.W.max_tuple_data (x := .int n) (xs := ns.map PyData.int) (I.ok.hd hc) (show s.heap.IsTuple a its.toArray from hl) (reads_ints (ns := n :: ns) rv) (alike_ints (n :: ns)) (by
    have := depth_ints (n :: ns)
    rw [show PyData.int n :: ns.map PyData.int = (n :: ns).map PyData.int from rfl, this]
    omega) fun i v h' tk bs hv hr hk => ?_
  rw [PySem.W.maxD_ints] at hr
  cases hr
  exact ⟨.int _, H, I.kept hk, ⟨_, rfl⟩, q⟩
theorem foldl_min_mem : ∀ (ns : List Int) (n : Int), (ns.foldl min n = n ∨ ns.foldl min n ∈ ns) ∧ ns.foldl min n ≤ n ∧ ∀ y ∈ ns, ns.foldl min n ≤ y
  | [], n => ⟨.inl rfl, Int.le_refl _, by simp⟩
  | m :: ns, n => by
    obtain ⟨h1, h2, h3⟩ := foldl_min_mem ns (min n m)
    simp only [List.foldl_cons]
    refine ⟨?_, by omega, fun y hy => ?_⟩
    · rcases h1 with h1 | h1
      · rw [h1]
        by_cases h : n ≤ m
        · left; omega
        · right; rw [show min n m = m by omega]; simp
      · right; exact List.mem_cons_of_mem _ h1
    · rcases List.mem_cons.mp hy with rfl | hy
      · omega
      · exact h3 y hy
theorem foldl_max_mem : ∀ (ns : List Int) (n : Int), (ns.foldl max n = n ∨ ns.foldl max n ∈ ns) ∧ n ≤ ns.foldl max n ∧ ∀ y ∈ ns, y ≤ ns.foldl max n
  | [], n => ⟨.inl rfl, Int.le_refl _, by simp⟩
  | m :: ns, n => by
    obtain ⟨h1, h2, h3⟩ := foldl_max_mem ns (max n m)
    simp only [List.foldl_cons]
    refine ⟨?_, by omega, fun y hy => ?_⟩
    · rcases h1 with h1 | h1
      · rw [h1]
        by_cases h : m ≤ n
        · left; omega
        · right; rw [show max n m = m by omega]; simp
      · right; exact List.mem_cons_of_mem _ h1
    · rcases List.mem_cons.mp hy with rfl | hy
      · omega
      · exact h3 y hy
theorem kon_min1 {m : Mp} {s : SH} {H : Hp} {vs : List PV} {xs : List V} {Q : VK} (M : Match B X.K m s H) (r : RVs X.K m s.length H vs xs) (k : Kon B X.K (RV X.K) (effO z (prim s .min1 vs) s 31) m s H Q) : rMin X.K xs H Q ∨ rMinT X.K xs H Q := by
  obtain ⟨a, f0, kk⟩ := Kon.effO k
  obtain ⟨v, e0, e⟩ := Option.bind_eq_some_iff.mp f0
  have := one_eq e0; subst this
  obtain ⟨x, rfl, rx⟩ := rv1 r
  obtain ⟨ys, e1, e2⟩ := Option.bind_eq_some_iff.mp e
  obtain ⟨is, e3, e4⟩ := Option.bind_eq_some_iff.mp e2
  obtain ⟨p, us, rfl, hp, rr⟩ := seqOf_ok M e1 rx
  have := getInts_ok e3 rr
  subst this
  cases is with
  | nil => cases e4
  | cons i is =>
    cases e4
    rcases hp with hp | hp
    · refine .inl ⟨p, i :: is, rfl, hp, by simp, fun mn h1 h2 => ?_⟩
      obtain ⟨g1, g2, g3⟩ := foldl_min_mem is i
      have e : mn = is.foldl min i := by
        have a1 : is.foldl min i ≤ mn := by
          rcases List.mem_cons.mp h1 with rfl | h1
          · exact g2
          · exact g3 mn h1
        have a2 : mn ≤ is.foldl min i := by
          rcases g1 with g1 | g1
          · rw [g1]; exact h2 i (by simp)
          · exact h2 _ (List.mem_cons_of_mem _ g1)
        omega
      rw [e]; exact Kon.val M kk rfl
    · exact .inr ⟨p, i, is, rfl, hp, Kon.val M kk rfl⟩
theorem kon_max1 {m : Mp} {s : SH} {H : Hp} {vs : List PV} {xs : List V} {Q : VK} (M : Match B X.K m s H) (r : RVs X.K m s.length H vs xs) (k : Kon B X.K (RV X.K) (effO z (prim s .max1 vs) s 31) m s H Q) : rMax X.K xs H Q ∨ rMaxT X.K xs H Q := by
  obtain ⟨a, f0, kk⟩ := Kon.effO k
  obtain ⟨v, e0, e⟩ := Option.bind_eq_some_iff.mp f0
  have := one_eq e0; subst this
  obtain ⟨x, rfl, rx⟩ := rv1 r
  obtain ⟨ys, e1, e2⟩ := Option.bind_eq_some_iff.mp e
  obtain ⟨is, e3, e4⟩ := Option.bind_eq_some_iff.mp e2
  obtain ⟨p, us, rfl, hp, rr⟩ := seqOf_ok M e1 rx
  have := getInts_ok e3 rr
  subst this
  cases is with
  | nil => cases e4
  | cons i is =>
    cases e4
    rcases hp with hp | hp
    · refine .inl ⟨p, i :: is, rfl, hp, by simp, fun mn h1 h2 => ?_⟩
      obtain ⟨g1, g2, g3⟩ := foldl_max_mem is i
      have e : mn = is.foldl max i := by
        have a1 : mn ≤ is.foldl max i := by
          rcases List.mem_cons.mp h1 with rfl | h1
          · exact g2
          · exact g3 mn h1
        have a2 : is.foldl max i ≤ mn := by
          rcases g1 with g1 | g1
          · rw [g1]; exact h2 i (by simp)
          · exact h2 _ (List.mem_cons_of_mem _ g1)
        omega
      rw [e]; exact Kon.val M kk rfl
    · exact .inr ⟨p, i, is, rfl, hp, Kon.val M kk rfl⟩
/-! ### int of a text -/
def rIntS : List V → Hp → VK → Prop := fun xs H Q => ∃ a n, xs = [.str a] ∧ PySem.intText? a = some n ∧ a.length ≤ 640 ∧ Q (.int n) H
theorem intS_ok {a : Str} {i : Int} (h : intS a = some i) : PySem.intText? a = some i ∧ a.length ≤ 640 := by
  unfold intS at h
  split at h
  · rename_i hl
    refine ⟨?_, hl⟩
    have dig : ∀ l : List Nat, l.all isDig = true → PySem.NumText.AllDigits l := fun l hl c hc => by
      have := List.all_eq_true.mp hl c hc
      simpa [isDig] using this
    split at h
    · rename_i c r e
      split at h
      · rename_i hd
        cases h
        exact PySem.intText_neg e (dig _ hd) (by simp) (by omega)
      · cases h
    · rename_i c r hne e
      split at h
      · rename_i hd
        cases h
        have := PySem.intText_digits (x := a) (by rw [e]; exact dig _ hd) (by rw [e]; simp) (by omega)
        rw [this, e]; rfl
      · cases h
    · cases h
  · cases h
theorem kon_int {m : Mp} {s : SH} {H : Hp} {vs : List PV} {xs : List V} {Q : VK} (M : Match B X.K m s H) (r : RVs X.K m s.length H vs xs) (k : Kon B X.K (RV X.K) (effO z (prim s .int vs) s 31) m s H Q) : rInt xs H Q ∨ rIntS xs H Q := by
  obtain ⟨a, f0, kk⟩ := Kon.effO k
  obtain ⟨v, e1, e⟩ := Option.bind_eq_some_iff.mp f0
  have := one_eq e1; subst this
  obtain ⟨x, rfl, rx⟩ := rv1 r
  unfold pInt1 at e
  split at e
  · obtain ⟨i, e2, rfl⟩ := Option.map_eq_some_iff.mp e
    cases rx
    obtain ⟨h1, h2⟩ := intS_ok e2
    exact .inr ⟨_, i, rfl, h1, h2, Kon.val M kk rfl⟩
  · cases rx; cases e; exact .inl (.inl ⟨_, rfl, Kon.val M kk rfl⟩)
  · cases rx; cases e; exact .inl (.inr ⟨_, rfl, Kon.val M kk rfl⟩)
  · cases e
end
end CS
end CSPrim7_

section CSPrim8_
set_option maxRecDepth 100000
set_option maxHeartbeats 1000000
namespace CS
open PySem L2
variable {z : Bool}
section
variable {B : Nm} {X : Cx} {o a : Expr} {ro ra : Sl → SH → R PV} {pos apos : Pos}
theorem cutAt_spl (b : List Nat) : ∀ (l : List Nat) (k : Nat) (acc : List Nat), cutAt b k acc l = TL.spl b k acc l
  | [], k, acc => by cases k <;> rfl
  | c :: r, 0, acc => by
    show (bif (c :: r).take b.length == b then acc :: cutAt b (b.length - 1) [] r else cutAt b 0 (acc ++ [c]) r) = (if TL.pre b (c :: r) = true then acc :: TL.spl b (b.length - 1) [] r else TL.spl b 0 (acc ++ [c]) r)
    rw [cutAt_spl b r (b.length - 1) [], cutAt_spl b r 0 (acc ++ [c])]
    unfold TL.pre
    cases ((c :: r).take b.length == b) <;> rfl
  | c :: r, k + 1, acc => cutAt_spl b r k acc
theorem splitS_ok {x y : Str} {ss : List Str} (h : splitS x y = some ss) : (y.length == 0) = false ∧ x.length + 2 ≤ sizeLine ∧ Txt.split x y = ss := by
  unfold splitS at h
  split at h
  · rename_i hc
    obtain ⟨h1, h2, h3⟩ := hc
    cases h
    refine ⟨?_, h3, ?_⟩
    · have : y.length ≠ 0 := fun q => h1 (List.eq_nil_of_length_eq_zero (by rw [Array.length_toList]; exact q))
      simpa using this
    · have := SX.split_S (a := x.cps.toList) (b := y.cps.toList) h1 (by simpa using h2)
      rw [SX.S_tl, SX.S_tl] at this
      rw [this, cutAt_spl]
  · cases h
theorem starts_ok (x y : Str) : Txt.startswith x y = y.cps.toList.isPrefixOf x.cps.toList := by
  unfold Txt.startswith Builtin.Str.subAt
  have e : (x.cps.extract 0 (0 + y.length) == y.cps) = (x.cps.toList.take y.length == y.cps.toList) := by
    rw [Bool.eq_iff_iff, beq_iff_eq, beq_iff_eq, ← Array.toList_inj]
    simp
  rw [e]
  rw [Bool.eq_iff_iff, Bool.and_eq_true, beq_iff_eq, decide_eq_true_eq, List.isPrefixOf_iff_prefix]
  have hl : y.cps.toList.length = y.length := Array.length_toList
  have hx : x.cps.toList.length = x.length := Array.length_toList
  constructor
  · rintro ⟨_, h⟩
    rw [← h]; exact List.take_prefix _ _
  · intro h
    refine ⟨by have := h.length_le; omega, ?_⟩
    have := List.prefix_iff_eq_take.mp h
    rw [hl] at this
    exact this.symm
/-- s.m(a), a method of texts -/
theorem se_m1 {name : Str} {id : String} {p : Prim} {r : V → List V → Hp → VK → Prop} (slot : Slot "str" name id) (hty : typeOf (.builtin id) = pure (.type "method_descriptor")) (hm : MtR X id r)
    (hbm : ∀ (s : SH) (x : PV), bmTy s p x = true → ∃ t, x = .str t)
    (hk : ∀ (m : Mp) (s : SH) (H : Hp) (sep : Str) (w : PV) (y : V) (Q : VK), Match B X.K m s H → RV X.K m s.length H w y → Kon B X.K (RV X.K) (effO z (prim s p [.str sep, w]) s 31) m s H Q → r (.str sep) [y] H Q)
    (ho : SE B X o ro) (ha : SE B X a ra) (hbase : attributeBase o name X.env (eval o X.env) = eval o X.env) (hline : (apos.endLine == pos.line) = true) (hp : plainArgs [a] = true) :
    SE B X (.Call (.Attribute o name apos) [a] [] pos) (fun σ s => (ro σ s).bind fun x s => if bmTy s p x then ((ra σ s).bind fun x s => (R.ok [] s).bind fun xs s => R.ok (x :: xs) s).bind fun vs s => effO z (prim s p (x :: vs)) s 31 else .bad 53) := by
  have h1 := plain_cons hp
  refine (pe_m1 slot hty hm ho ha (star_plain h1.1) hbase hline).imp fun τ H Q ⟨m, s, σ, sk, k⟩ => ?_
  refine TEi.bind (f := fun σ x s => if bmTy s p x then ((ra σ s).bind fun x s => (R.ok [] s).bind fun xs s => R.ok (x :: xs) s).bind fun vs s => effO z (prim s p (x :: vs)) s 31 else .bad 53) sk k fun v s1 m1 H1 x g1 st1 rv k1 => ?_
  by_cases hb : bmTy s1 p v = true
  · rw [if_pos hb] at k1
    obtain ⟨sep, rfl⟩ := hbm s1 v hb
    cases rv
    refine ⟨⟨sep, rfl⟩, ?_⟩
    cases e0 : ra σ s1 with
    | bad w => simp only [e0, R.bind] at k1; exact (Kon.bad k1).elim
    | ok w s2 =>
      simp only [e0, R.bind] at k1
      obtain ⟨u, s3, e3, k3⟩ := k1
      refine ⟨m1, s1, σ, st1, w, s2, e0, fun m2 H2 y g2 ry => ?_⟩
      exact hk m2 s2 H2 sep w y Q g2.mt ry ⟨u, s3, e3, fun m3 H3 z g3 r3 => k3 m3 H3 z (g2.trans st1.mt g3) r3⟩
  · rw [if_neg hb] at k1; exact (Kon.bad k1).elim
theorem bm_str {p : Prim} (hp : p = .split ∨ p = .starts ∨ p = .count) (s : SH) (x : PV) (h : bmTy s p x = true) : ∃ t, x = .str t := by
  rcases hp with rfl | rfl | rfl <;> (cases x <;> first | exact ⟨_, rfl⟩ | cases h)
theorem kon_split (m : Mp) (s : SH) (H : Hp) (sep : Str) (w : PV) (y : V) (Q : VK) (M : Match B X.K m s H) (ry : RV X.K m s.length H w y) (k : Kon B X.K (RV X.K) (effO z (prim s .split [.str sep, w]) s 31) m s H Q) :
    ∃ a b, V.str sep = .str a ∧ [y] = [.str b] ∧ (b.length == 0) = false ∧ a.length + 2 ≤ sizeLine ∧ rNewStrs (Txt.split a b) H Q := by
  obtain ⟨eff, f0, k3⟩ := Kon.effO k
  cases w with
  | str b =>
    have f0 : (splitS sep b).map (fun ss => Eff.new (.lst (ss.map .str))) = some eff := f0
    obtain ⟨ss, e3, rfl⟩ := Option.map_eq_some_iff.mp f0
    cases ry
    obtain ⟨a1, a2, a3⟩ := splitS_ok e3
    refine ⟨sep, b, rfl, rfl, a1, a2, ?_⟩
    rw [a3]
    have rs : ∀ ss : List Str, RVs X.K m s.length H (ss.map PV.str) (ss.map V.str) := fun ss => by
      induction ss with
      | nil => rfl
      | cons t ts ih => exact ⟨_, _, rfl, rfl, ih⟩
    exact fun p hp => Kon.lst M k3 (rs ss) hp
  | _ => cases f0
theorem kon_starts (m : Mp) (s : SH) (H : Hp) (sep : Str) (w : PV) (y : V) (Q : VK) (M : Match B X.K m s H) (ry : RV X.K m s.length H w y) (k : Kon B X.K (RV X.K) (effO z (prim s .starts [.str sep, w]) s 31) m s H Q) :
    ∃ a b, V.str sep = .str a ∧ [y] = [.str b] ∧ Q (.bl (Txt.startswith a b)) H := by
  obtain ⟨eff, f0, k3⟩ := Kon.effO k
  cases w with
  | str b =>
    cases f0
    cases ry
    refine ⟨sep, b, rfl, rfl, ?_⟩
    rw [starts_ok]
    exact Kon.val M k3 rfl
  | _ => cases f0
theorem se_split (ho : SE B X o ro) (ha : SE B X a ra) (hbase : attributeBase o "split" X.env (eval o X.env) = eval o X.env) (hline : (apos.endLine == pos.line) = true) (hp : plainArgs [a] = true) :
    SE B X (.Call (.Attribute o "split" apos) [a] [] pos) (fun σ s => (ro σ s).bind fun x s => if bmTy s .split x then ((ra σ s).bind fun x s => (R.ok [] s).bind fun xs s => R.ok (x :: xs) s).bind fun vs s => effO z (prim s .split (x :: vs)) s 31 else .bad 53) :=
  se_m1 PySem.F.slot_str_split PySem.F.type_str_split mt_split (bm_str (.inl rfl)) kon_split ho ha hbase hline hp
theorem se_starts (ho : SE B X o ro) (ha : SE B X a ra) (hbase : attributeBase o "startswith" X.env (eval o X.env) = eval o X.env) (hline : (apos.endLine == pos.line) = true) (hp : plainArgs [a] = true) :
    SE B X (.Call (.Attribute o "startswith" apos) [a] [] pos) (fun σ s => (ro σ s).bind fun x s => if bmTy s .starts x then ((ra σ s).bind fun x s => (R.ok [] s).bind fun xs s => R.ok (x :: xs) s).bind fun vs s => effO z (prim s .starts (x :: vs)) s 31 else .bad 53) :=
  se_m1 PySem.F.slot_str_startswith PySem.F.type_str_startswith mt_startswith (bm_str (.inr (.inl rfl))) kon_starts ho ha hbase hline hp
theorem cnt_eq (c : Nat) : ∀ l : List Nat, PyProof.Rows.cnt c l = ((l.count c : Nat) : Int)
  | [] => rfl
  | n :: r => by
    rw [PyProof.Rows.cnt_cons, cnt_eq c r, List.count_cons]
    by_cases h : n = c
    · subst h; simp; omega
    · have : (n == c) = false := by simpa using h
      simp [h, this]
theorem count_ok {a b : Str} {c : Nat} (h : b.cps.toList = [c]) : Txt.count a b = ((a.cps.toList.count c : Nat) : Int) := by
  obtain ⟨⟨l⟩⟩ := b
  have h : l = [c] := h
  subst h
  exact (PyProof.Rows.count_is a c).trans (cnt_eq c a.cps.toList)
theorem kon_count (m : Mp) (s : SH) (H : Hp) (sep : Str) (w : PV) (y : V) (Q : VK) (M : Match B X.K m s H) (ry : RV X.K m s.length H w y) (k : Kon B X.K (RV X.K) (effO z (prim s .count [.str sep, w]) s 31) m s H Q) :
    ∃ a b, V.str sep = .str a ∧ [y] = [.str b] ∧ Q (.int (Txt.count a b)) H := by
  obtain ⟨eff, f0, k3⟩ := Kon.effO k
  cases w with
  | str b =>
    have f0 : (match b.cps.toList with
      | [c] => some (Eff.val (.int (sep.cps.toList.count c : Nat)))
      | _ => none) = some eff := f0
    split at f0
    · rename_i c hb
      cases f0
      cases ry
      refine ⟨sep, b, rfl, rfl, ?_⟩
      rw [count_ok hb]
      exact Kon.val M k3 rfl
    · cases f0
  | _ => cases f0
theorem se_count (ho : SE B X o ro) (ha : SE B X a ra) (hbase : attributeBase o "count" X.env (eval o X.env) = eval o X.env) (hline : (apos.endLine == pos.line) = true) (hp : plainArgs [a] = true) :
    SE B X (.Call (.Attribute o "count" apos) [a] [] pos) (fun σ s => (ro σ s).bind fun x s => if bmTy s .count x then ((ra σ s).bind fun x s => (R.ok [] s).bind fun xs s => R.ok (x :: xs) s).bind fun vs s => effO z (prim s .count (x :: vs)) s 31 else .bad 53) :=
  se_m1 PySem.F.slot_str_count PySem.F.type_str_count mt_count (bm_str (.inr (.inr rfl))) kon_count ho ha hbase hline hp
end
end CS
end CSPrim8_

section CSSound_
set_option maxRecDepth 100000
set_option maxHeartbeats 4000000
namespace CS
open PySem L2

/-- what the compiled forms are not -/
structure Form (e : Expr) : Prop where
  star : PySem.W.isStarred e = false
  marks : ∀ op, behindInMarks op e = false
  ix : PlainIx e
  sl : ∀ lo hi st q, e ≠ .Slice lo hi st q
  fold : ∀ env x, foldedSetIterable e env x = pure x
  ixo : SubOwn e
theorem form_of {C : Cc} {N : List Str} {n : Nat} {z : Bool} {S : Scp} {e : Expr} {i : IE} (h : cE C N n z S e = some i) : Form e := by
  cases n with
  | zero => simp only [cE] at h; cases h
  | succ n =>
    cases e <;> first
      | exact ⟨rfl, fun _ => rfl, fun _ _ => rfl, fun _ _ _ _ => by simp, fun _ _ => rfl, fun _ _ => rfl⟩
      | exact absurd (show (none : Option IE) = some i from h) (by simp)
theorem slotOf_ok {N : List Str} {x : Str} {i : Nat} (h : slotOf N x = some i) : N[i]? = some x := by
  unfold slotOf at h
  obtain ⟨hi, e, _⟩ := List.findIdx?_eq_some_iff_getElem.mp h
  rw [List.getElem?_eq_getElem hi]
  simpa using e
theorem idOf_ok {C : Cc} {x : Str} {i : Nat} (h : idOf C x = some i) : C.nm[i]? = some x := by
  unfold idOf at h
  obtain ⟨hi, e, _⟩ := List.findIdx?_eq_some_iff_getElem.mp h
  rw [List.getElem?_eq_getElem hi]
  simpa using e
theorem isLoc_ok {sc : Scope} {x : Str} (h : isLoc sc x = true) : Vis sc x := by
  unfold isLoc at h
  split at h
  · exact .inl (by assumption)
  · exact .inr (.inl (by assumption))
  · exact .inr (.inr (by assumption))
  · cases h
theorem isOwn_ok {sc : Scope} {x : Str} (h : isOwn sc x = true) : Loc sc x := by
  unfold isOwn at h
  split at h
  · exact .inl (by assumption)
  · exact .inr (by assumption)
  · cases h
theorem isLocal_ok {sc : Scope} {x : Str} (h : isLocal sc x = true) : sc.names.lookup x = some .local := by
  unfold isLocal at h
  split at h
  · assumption
  · cases h
theorem isGlob_ok {sc : Scope} {x : Str} (h : isGlob sc x = true) : sc.names.lookup x = some .globalImplicit := by
  unfold isGlob at h
  split at h
  · assumption
  · cases h
theorem okName_ok {x : Str} (h : okName x = true) : (x == ("__debug__" : Str)) = false ∧ (x == ("__classdict__" : Str)) = false ∧ x ≠ "__name__" := by
  unfold okName at h
  simp only [bne, Bool.and_eq_true, Bool.not_eq_true'] at h
  exact ⟨h.1.1, h.1.2, by have := h.2; simpa using this⟩
theorem notSuper_ok {o : Expr} (h : notSuper o = true) (a : Str) (env : Env) : attributeBase o a env (eval o env) = eval o env := by
  unfold notSuper at h
  split at h
  · rename_i id p q
    unfold attributeBase
    simp only [h, Bool.true_or, if_true]
  · rename_i hne
    unfold attributeBase
    split
    · rename_i id p q
      exact absurd rfl (hne id p q)
    · rfl
theorem notComp_ok {e : Expr} (h : notComp e = true) (t : Option Expr) (l : Nat) (env : Env) : swapsWith e t l env = pure false := by
  cases e <;> first | rfl | cases h

/-- where the readings stand -/
structure XOk (P : Pk) (call : Nat → List PV → SH → R PV) (k : Nat) (N : List Str) (X : Cx) (S : Scp) : Prop where
  pk : PkOk P X.K X.mg
  kit : KitOk P.B X.K
  dic : DicOk P X.K X.w X.mg
  co : CallOk P X.prog X.w X.K X.mg X.base k call
  room : Room (k + 1) X.A
  xe : PassesOwn (model X.prog X.w) X.A X.env X.xe
  calm : X.calm = true
  nN : X.N = N
  nd : N.Nodup
  sc : X.env.scope = S.sc
  kind : S.sc.kind = .function
  fn : ∀ x, S.fn x = true → X.fn x = true
section
variable {P : Pk} {call : Nat → List PV → SH → R PV} {k : Nat} {N : List Str} {X : Cx} {S : Scp}
theorem XOk.gl (O : XOk P call k N X S) {x : Str} (h : isGlob S.sc x = true) : Gl X x := by
  show X.env.scope.names.lookup x = _
  rw [O.sc]; exact isGlob_ok h
theorem XOk.vis (O : XOk P call k N X S) {x : Str} (h : isLoc S.sc x = true) : Vis X.env.scope x := by rw [O.sc]; exact isLoc_ok h
theorem XOk.at_ (O : XOk P call k N X S) {x : Str} {i : Nat} (h : slotOf N x = some i) : X.N[i]? = some x := by rw [O.nN]; exact slotOf_ok h
theorem XOk.nodup (O : XOk P call k N X S) : X.N.Nodup := by rw [O.nN]; exact O.nd
theorem XOk.passes (O : XOk P call k N X S) : PassesOwn (model X.prog X.w) X.A X.env X.xe := O.xe
theorem XOk.id (O : XOk P call k N X S) {x : Str} {i : Nat} (h : idOf P.C x = some i) : nmOf P.B i = x := by
  have e := idOf_ok h
  unfold nmOf
  rw [O.pk.nm, List.getD_eq_getElem?_getD, e]; rfl
theorem XOk.blk (O : XOk P call k N X S) (s : Shared) (H : Hp) (scope : Scope) (hk : scope.kind = .function) (C : Addr) (cl : List (Str × Addr)) (fp : List Addr) : XOk P call k N (X.blk s H scope (compEnvC scope cl C X.env) fp) (S.blk scope) :=
  ⟨O.pk, O.kit, O.dic, O.co, O.room, PassesOwn.never, O.calm, O.nN, O.nd, by
    show relabel scope X.env = relS scope S.sc
    rw [← O.sc]; rfl, hk, fun x h => h⟩

/-- a name to store to -/
theorem tgn_ok (O : XOk P call k N X S) {x : Str} {p : Pos} {i : Nat} (h : cTgN N S (.Name x p) = some i) : X.N[i]? = some x ∧ Loc X.env.scope x ∧ (X.fn x = true ∨ X.env.scope.names.lookup x = some .local) := by
  simp only [cTgN] at h
  split at h
  · rename_i hc
    simp only [Bool.and_eq_true, Bool.or_eq_true] at hc
    refine ⟨O.at_ h, by rw [O.sc]; exact isOwn_ok hc.1, ?_⟩
    rcases hc.2 with h1 | h1
    · exact .inl (O.fn x h1)
    · exact .inr (by rw [O.sc]; exact isLocal_ok h1)
  · cases h
theorem tgs_ok (O : XOk P call k N X S) : ∀ {es : List Expr} {is : List Nat}, cTgs N S es = some is → NamesAt X es is
  | [], is, h => by simp only [cTgs] at h; cases h; exact .nil
  | e :: es, is, h => by
    simp only [cTgs] at h
    obtain ⟨i, e1, h⟩ := Option.bind_eq_some_iff.mp h
    obtain ⟨js, e2, rfl⟩ := Option.map_eq_some_iff.mp h
    cases e with
    | Name x p =>
      obtain ⟨a, b, c⟩ := tgn_ok O e1
      exact .cons a b c (tgs_ok O e2)
    | _ => simp only [cTgN] at e1; cases e1
theorem tn_ok (O : XOk P call k N X S) {e : Expr} {t : Tg} (h : cTn N S e = some t) : PG X e (gTg X.K t) ∧ ((∃ i, t = .name i) ∨ ∃ is, t = .names is) := by
  unfold cTn at h
  split at h
  · obtain ⟨i, e1, rfl⟩ := Option.map_eq_some_iff.mp h
    obtain ⟨a, b, c⟩ := tgn_ok O e1
    exact ⟨pg_name O.nodup a b c, .inl ⟨i, rfl⟩⟩
  · obtain ⟨is, e1, rfl⟩ := Option.map_eq_some_iff.mp h
    exact ⟨pg_names O.calm O.nodup (tgs_ok O e1), .inr ⟨is, rfl⟩⟩
  · cases h
/-- a class -/
theorem tyB_ok {x : Str} {T : Ty} (h : tyB x = some T) : (∃ s, bootBuiltins x = some (.type s) ∧ tyVal P.B T = .ty s) ∧ tyIn P.B T := by
  unfold tyB at h
  repeat' split at h
  all_goals first
    | (rename_i q; cases h; subst q; exact ⟨⟨_, PyProof.Rows.boot_int, rfl⟩, trivial⟩)
    | (rename_i q; cases h; subst q; exact ⟨⟨_, PyProof.Rows.boot_bool, rfl⟩, trivial⟩)
    | (rename_i q; cases h; subst q; exact ⟨⟨_, PyProof.Rows.boot_str, rfl⟩, trivial⟩)
    | (rename_i q; cases h; subst q; exact ⟨⟨_, PyProof.Rows.boot_list, rfl⟩, trivial⟩)
    | (rename_i q; cases h; subst q; exact ⟨⟨_, PyProof.Rows.boot_tuple, rfl⟩, trivial⟩)
    | cases h
theorem tyn_ok (O : XOk P call k N X S) {e : Expr} {T : Ty} (h : cTyN P.C S e = some T) : PE X e (tC (tyVal P.B T)) ∧ PySem.W.isStarred e = false ∧ tyIn P.B T := by
  unfold cTyN at h
  split at h
  · rename_i x p
    split at h
    · rename_i hc
      simp only [Bool.and_eq_true] at hc
      have G := O.gl hc.1
      obtain ⟨n1, n2, n3⟩ := okName_ok hc.2
      split at h
      · rename_i hb
        obtain ⟨⟨s, e1, e2⟩, hin⟩ := tyB_ok (P := P) h
        exact ⟨by rw [e2]; exact pe_bltn G (O.pk.bis x hb) e1 rfl n3 n1, rfl, hin⟩
      · obtain ⟨q, e1, rfl⟩ := Option.map_eq_some_iff.mp h
        obtain ⟨c, f, ps⟩ := q
        obtain ⟨hm, Cl, hC, _⟩ := O.pk.cls x c f ps e1
        exact ⟨pe_glob G hm rfl n1, rfl, by show c < P.B.nc; rw [O.pk.nc]; exact (List.getElem?_eq_some_iff.mp hC).1⟩
    · cases h
  · cases h
theorem tys_ok (O : XOk P call k N X S) : ∀ {es : List Expr} {Ts : List Ty}, cTys P.C S es = some Ts → TysAt P.B X es Ts ∧ ∀ T ∈ Ts, tyIn P.B T
  | [], Ts, h => by simp only [cTys] at h; cases h; exact ⟨.nil, by simp⟩
  | e :: es, Ts, h => by
    simp only [cTys] at h
    obtain ⟨i, e1, h⟩ := Option.bind_eq_some_iff.mp h
    obtain ⟨js, e2, rfl⟩ := Option.map_eq_some_iff.mp h
    obtain ⟨a, b, c⟩ := tyn_ok O e1
    obtain ⟨d, f⟩ := tys_ok O e2
    exact ⟨.cons a b d, fun T hT => by
      rcases List.mem_cons.mp hT with rfl | hT
      · exact c
      · exact f T hT⟩
def Es.len : Es → Nat
  | .nil => 0
  | .cons _ es => es.len + 1
theorem evs_len {G : Gs} : ∀ (es : Es) {σ : Sl} {s : SH} {vs : List PV} {s' : SH}, evs G call es σ s = .ok vs s' → vs.length = es.len
  | .nil, σ, s, vs, s', h => by simp only [evs] at h; cases h; rfl
  | .cons e es, σ, s, vs, s', h => by
    simp only [evs] at h
    cases h1 : ev G call e σ s with
    | bad w => rw [h1] at h; cases h
    | ok v s1 =>
      rw [h1] at h
      simp only [R.bind] at h
      cases h2 : evs G call es σ s1 with
      | bad w => rw [h2] at h; cases h
      | ok vs2 s2 =>
        rw [h2] at h
        cases h
        simp only [List.length_cons, Es.len, evs_len es h2]
theorem dicN_ok (O : XOk P call k N X S) {e : Expr} {kvs : List (Str × PV)} (h : dicN P.C S e = some kvs) : ∃ x p, e = .Name x p ∧ DicAt X.K X.w X.mg x kvs ∧ Gl X x ∧ (x == ("__debug__" : Str)) = false := by
  unfold dicN at h
  split at h
  · rename_i x p
    split at h
    · rename_i hc
      simp only [Bool.and_eq_true] at hc
      exact ⟨x, p, rfl, O.dic x kvs h, O.gl hc.1, (okName_ok hc.2).1⟩
    · cases h
  · cases h
/-- what is shown of each compiler -/
structure Snd (P : Pk) (call : Nat → List PV → SH → R PV) (k : Nat) (N : List Str) (n : Nat) : Prop where
  e : ∀ X S e i {z}, XOk P call k N X S → cE P.C N n z S e = some i → SE P.B X e (ev P.G call i)
  cmp : ∀ X S a os bs p i {z}, XOk P call k N X S → cE P.C N n z S (.Compare a os bs p) = some i → PEC P.B X (.Compare a os bs p) (ev P.G call i)
  c : ∀ X S x as ks i p pos {z}, XOk P call k N X S → isGlob S.sc x = true → okName x = true → cCall P.C N n z S x as ks = some i → SE P.B X (.Call (.Name x p) as ks pos) (ev P.G call i)
  m : ∀ X S o m as ks i apos pos, XOk P call k N X S → (apos.endLine == pos.line) = true → notSuper o = true → cMeth P.C N n S o m as ks = some i → SE P.B X (.Call (.Attribute o m apos) as ks pos) (ev P.G call i)
  ow : ∀ X S f as ks i pos, XOk P call k N X S → (∀ b n q, f ≠ .Attribute b n q) → cOwn P.C N n S f as ks = some i → SE P.B X (.Call f as ks pos) (ev P.G call i)
  b : ∀ X S e i, XOk P call k N X S → cB P.C N n S e = some i → SB P.B X e (evT P.G call i)
  w : ∀ X S o vs pos i, XOk P call k N X S → cW P.C N n S o vs pos = some i → SW P.B X (.BoolOp o vs pos) (evT P.G call i)
  f : ∀ X S ifs i, XOk P call k N X S → cIf P.C N n S ifs = some i → PTs X ifs (TTi P.B X.K (evT P.G call i))
  es : ∀ X S es i {z}, XOk P call k N X S → cEs P.C N n z S es = some i → SA P.B X es (evs P.G call i) ∧ plainArgs es = true ∧ i.len = es.length
  ds : ∀ X S es i {z}, XOk P call k N X S → cDs P.C N n z S es = some i → SA P.B X es (evd P.G call i)
  ks : ∀ X S ks i, XOk P call k N X S → cKs P.C N n S ks = some i → SK P.B X ks (evs P.G call i) ∧ i.len = ks.length
  o : ∀ X S o i, XOk P call k N X S → cO P.C N n S o = some i → PO X o (TOi P.B X.K (evO P.G call i))
  fs : ∀ X S es i, XOk P call k N X S → cFs P.C N n S es = some i → ∃ rs, FsAt P.B X es rs ∧ evl rs = evs P.G call i
  i : ∀ X S t e i, XOk P call k N X S → cI P.C N n S t e = some i → SI P.B X t e (evI P.G call i) ∧ ∀ env x, foldedSetIterable e env x = pure x
theorem snd0 : Snd P call k N 0 := ⟨fun _ _ _ _ {_} _ h => by simp [cE] at h, fun _ _ _ _ _ _ _ {_} _ h => by simp [cE] at h, fun _ _ _ _ _ _ _ _ {_} _ _ _ h => by simp [cCall] at h, fun _ _ _ _ _ _ _ _ _ _ _ _ h => by simp [cMeth] at h, fun _ _ _ _ _ _ _ _ _ h => by simp [cOwn] at h, fun _ _ _ _ _ h => by simp [cB] at h, fun _ _ _ _ _ _ _ h => by simp [cW] at h, fun _ _ _ _ _ h => by simp [cIf] at h, fun _ _ _ _ {_} _ h => by simp [cEs] at h, fun _ _ _ _ {_} _ h => by simp [cDs] at h, fun _ _ _ _ _ h => by simp [cKs] at h, fun _ _ _ _ _ h => by simp [cO] at h, fun _ _ _ _ _ h => by simp [cFs] at h, fun _ _ _ _ _ _ h => by simp [cI] at h⟩
variable {n : Nat}
/-- lists -/
theorem snd_es (h : Snd P call k N n) (O : XOk P call k N X S) {es : List Expr} {i : Es} {z : Bool} (hc : cEs P.C N (n + 1) z S es = some i) : SA P.B X es (evs P.G call i) ∧ plainArgs es = true ∧ i.len = es.length := by
  unfold cEs at hc
  split at hc
  · cases hc; exact ⟨sa_nil, rfl, rfl⟩
  · rename_i e es
    obtain ⟨a, e1, hc⟩ := Option.bind_eq_some_iff.mp hc
    obtain ⟨b, e2, rfl⟩ := Option.map_eq_some_iff.mp hc
    obtain ⟨h1, h2, h3⟩ := h.es X S es b O e2
    have F := form_of e1
    refine ⟨sa_cons (h.e X S e a O e1) h1 (star_plain F.star), ?_, ?_⟩
    · unfold plainArgs at h2 ⊢
      rw [List.all_cons, F.star, h2]; rfl
    · show b.len + 1 = _; rw [h3]; rfl
theorem snd_ds (h : Snd P call k N n) (O : XOk P call k N X S) {es : List Expr} {i : Ds} {z : Bool} (hc : cDs P.C N (n + 1) z S es = some i) : SA P.B X es (evd P.G call i) := by
  unfold cDs at hc
  split at hc
  · cases hc; exact sa_nil
  · obtain ⟨a, e1, hc⟩ := Option.bind_eq_some_iff.mp hc
    obtain ⟨b, e2, rfl⟩ := Option.map_eq_some_iff.mp hc
    exact sa_star (h.e X S _ a O e1) (h.ds X S _ b O e2)
  · obtain ⟨a, e1, hc⟩ := Option.bind_eq_some_iff.mp hc
    obtain ⟨b, e2, rfl⟩ := Option.map_eq_some_iff.mp hc
    exact sa_cons (h.e X S _ a O e1) (h.ds X S _ b O e2) (star_plain (form_of e1).star)
theorem snd_ks (h : Snd P call k N n) (O : XOk P call k N X S) {ks : List Keyword} {i : Es} (hc : cKs P.C N (n + 1) S ks = some i) : SK P.B X ks (evs P.G call i) ∧ i.len = ks.length := by
  unfold cKs at hc
  split at hc
  · cases hc; exact ⟨sk_nil, rfl⟩
  · rename_i kw ks
    obtain ⟨a, e1, hc⟩ := Option.bind_eq_some_iff.mp hc
    obtain ⟨b, e2, rfl⟩ := Option.map_eq_some_iff.mp hc
    obtain ⟨h1, h2⟩ := h.ks X S ks b O e2
    obtain ⟨nm, e, kp⟩ := kw
    exact ⟨sk_cons (h.e X S e a O e1) h1, by show b.len + 1 = _; rw [h2]; rfl⟩
theorem snd_o (h : Snd P call k N n) (O : XOk P call k N X S) {o : Option Expr} {i : OpI} (hc : cO P.C N (n + 1) S o = some i) : PO X o (TOi P.B X.K (evO P.G call i)) := by
  unfold cO at hc
  split at hc
  · cases hc; exact so_none
  · obtain ⟨a, e1, rfl⟩ := Option.map_eq_some_iff.mp hc
    exact so_some (h.e X S _ a O e1)
theorem snd_fs (h : Snd P call k N n) (O : XOk P call k N X S) {es : List Expr} {i : Es} (hc : cFs P.C N (n + 1) S es = some i) : ∃ rs, FsAt P.B X es rs ∧ evl rs = evs P.G call i := by
  unfold cFs at hc
  split at hc
  · cases hc; exact ⟨[], .nil, rfl⟩
  · obtain ⟨a, e1, rfl⟩ := Option.map_eq_some_iff.mp hc
    obtain ⟨rs, h1, h2⟩ := h.fs X S _ a O e1
    refine ⟨_, .txt h1, ?_⟩
    funext σ s
    show ((R.ok _ s).bind fun x s => (evl rs σ s).bind fun xs s => .ok (x :: xs) s) = _
    rw [h2]; rfl
  · obtain ⟨a, e1, hc⟩ := Option.bind_eq_some_iff.mp hc
    obtain ⟨b, e2, rfl⟩ := Option.map_eq_some_iff.mp hc
    obtain ⟨rs, h1, h2⟩ := h.fs X S _ b O e2
    refine ⟨_, .fmt (h.e X S _ a O e1) h1, ?_⟩
    funext σ s
    show ((ev P.G call a σ s).bind fun x s => (evl rs σ s).bind fun xs s => .ok (x :: xs) s) = _
    rw [h2]; rfl
  · cases hc
theorem snd_if (h : Snd P call k N n) (O : XOk P call k N X S) {ifs : List Expr} {i : IT} (hc : cIf P.C N (n + 1) S ifs = some i) : PTs X ifs (TTi P.B X.K (evT P.G call i)) := by
  unfold cIf at hc
  split at hc
  · cases hc
    exact ⟨fun pins s σ H Q I ⟨m, t, σ', st, kk⟩ => pts_nil.run pins s σ H Q I (Kon.valB st.mt kk)⟩
  · exact pts_one (h.b X S _ i O hc)
  · cases hc
theorem snd_w (h : Snd P call k N n) (O : XOk P call k N X S) {o : PySem.BoolOp} {vs : List Expr} {pos : Pos} {i : IT} (hc : cW P.C N (n + 1) S o vs pos = some i) : SW P.B X (.BoolOp o vs pos) (evT P.G call i) := by
  unfold cW at hc
  split at hc
  · exact sw_one (h.b X S _ i O hc)
  · obtain ⟨a, e1, hc⟩ := Option.bind_eq_some_iff.mp hc
    obtain ⟨b, e2, rfl⟩ := Option.map_eq_some_iff.mp hc
    cases o with
    | And => exact sw_and (h.b X S _ a O e1) (h.w X S _ _ _ b O e2)
    | Or => exact sw_or (h.b X S _ a O e1) (h.w X S _ _ _ b O e2)
  · cases hc
theorem snd_b (h : Snd P call k N n) (O : XOk P call k N X S) {e : Expr} {i : IT} (hc : cB P.C N (n + 1) S e = some i) : SB P.B X e (evT P.G call i) := by
  unfold cB at hc
  split at hc
  · obtain ⟨a, e1, rfl⟩ := Option.map_eq_some_iff.mp hc
    exact sb_not (h.b X S _ a O e1)
  · exact (h.w X S _ _ _ i O hc).pt
  · obtain ⟨c, e0, hc⟩ := Option.bind_eq_some_iff.mp hc
    obtain ⟨a, e1, hc⟩ := Option.bind_eq_some_iff.mp hc
    obtain ⟨b, e2, rfl⟩ := Option.map_eq_some_iff.mp hc
    exact sb_ite (h.b X S _ c O e0) (h.b X S _ a O e1) (h.b X S _ b O e2)
  · obtain ⟨a, e1, rfl⟩ := Option.map_eq_some_iff.mp hc
    exact (h.cmp X S _ _ _ _ a O e1).sb
  · rename_i h1 h2 h3 h4
    obtain ⟨a, e1, rfl⟩ := Option.map_eq_some_iff.mp hc
    refine sb_e (h.e X S _ a O e1) fun whole => ?_
    cases e with
    | UnaryOp op x p =>
      cases op with
      | Not => exact absurd rfl (h1 x p)
      | _ => rfl
    | BoolOp o vs p => exact absurd rfl (h2 o vs p)
    | IfExp c a b p => exact absurd rfl (h3 c a b p)
    | Compare a os bs p => exact absurd rfl (h4 a os bs p)
    | _ => rfl
theorem snd_i (h : Snd P call k N n) (O : XOk P call k N X S) {t e : Expr} {i : It} (hc : cI P.C N (n + 1) S t e = some i) : SI P.B X t e (evI P.G call i) ∧ ∀ env x, foldedSetIterable e env x = pure x := by
  have val : ∀ {j}, cE P.C N n true S e = some j → i = .val j → SI P.B X t e (evI P.G call i) ∧ ∀ env x, foldedSetIterable e env x = pure x := fun {j} e1 e2 => by
    subst e2
    exact ⟨si_val (h.e X S _ j O e1), (form_of e1).fold⟩
  unfold cI at hc
  split at hc
  · rename_i x p as ks pos
    split at hc
    · rename_i hx
      simp only [Bool.and_eq_true, decide_eq_true_eq, List.isEmpty_iff] at hx
      obtain ⟨⟨⟨hg, hb⟩, rfl⟩, rfl⟩ := hx
      split at hc
      · rename_i hl
        obtain ⟨a, e1, rfl⟩ := Option.map_eq_some_iff.mp hc
        obtain ⟨s1, s2, s3⟩ := h.es X S as a O e1
        simp only [Bool.or_eq_true, decide_eq_true_eq] at hl
        refine ⟨?_, fun _ _ => rfl⟩
        match as, hl, s1, s2, s3 with
        | [u], _, s1, s2, s3 => exact si_range1 (O.gl hg) (O.pk.bis _ hb) s1 s2 fun σ s vs s' e => by rw [evs_len a e, s3]; rfl
        | [u, v], _, s1, s2, s3 => exact si_range2 (O.gl hg) (O.pk.bis _ hb) s1 s2 fun σ s vs s' e => by rw [evs_len a e, s3]; rfl
        | [], hl, _, _, _ => simp at hl
        | _ :: _ :: _ :: _, hl, _, _, _ => simp at hl
      · cases hc
    · split at hc
      · rename_i hx
        simp only [Bool.and_eq_true, decide_eq_true_eq, List.isEmpty_iff] at hx
        obtain ⟨⟨⟨⟨hg, hb⟩, rfl⟩, rfl⟩, ht⟩ := hx
        split at hc
        · rename_i u v
          obtain ⟨a, e1, hc⟩ := Option.bind_eq_some_iff.mp hc
          obtain ⟨b, e2, rfl⟩ := Option.map_eq_some_iff.mp hc
          refine ⟨?_, fun _ _ => rfl⟩
          cases t <;> first | cases ht | skip
          exact si_zip (O.gl hg) (O.pk.bis _ hb) (h.e X S _ a O e1) (h.e X S _ b O e2) (by unfold plainArgs; simp [(form_of e1).star, (form_of e2).star])
        · cases hc
      · split at hc
        · rename_i hx
          simp only [Bool.and_eq_true, decide_eq_true_eq, List.isEmpty_iff] at hx
          obtain ⟨⟨⟨⟨hg, hb⟩, rfl⟩, rfl⟩, ht⟩ := hx
          split at hc
          · rename_i u
            obtain ⟨a, e1, rfl⟩ := Option.map_eq_some_iff.mp hc
            refine ⟨?_, fun _ _ => rfl⟩
            cases t <;> first | cases ht | skip
            exact si_enum (O.gl hg) (O.pk.bis _ hb) (h.e X S _ a O e1) (by unfold plainArgs; simp [(form_of e1).star])
          · cases hc
        · obtain ⟨a, e1, e2⟩ := Option.map_eq_some_iff.mp hc
          exact val e1 e2.symm
  · obtain ⟨a, e1, e2⟩ := Option.map_eq_some_iff.mp hc
    exact val e1 e2.symm
end
end CS
end CSSound_

section CSSound2_
set_option maxRecDepth 100000
set_option maxHeartbeats 4000000
namespace CS
open PySem L2
section
variable {P : Pk} {call : Nat → List PV → SH → R PV} {k : Nat} {N : List Str} {X : Cx} {S : Scp} {n : Nat}
theorem snd_cmp (h : Snd P call k N n) (O : XOk P call k N X S) {a : Expr} {os : List CmpOp} {bs : List Expr} {p : Pos} {i : IE} {z : Bool} (hc : cE P.C N (n + 1) z S (.Compare a os bs p) = some i) : PEC P.B X (.Compare a os bs p) (ev P.G call i) := by
  have none_ : (none : Option IE) = some i → False := fun z => by cases z
  match os, bs, hc with
  | [], _, hc => exact (none_ hc).elim
  | [_], [], hc => exact (none_ hc).elim
  | [_], _ :: _ :: _, hc => exact (none_ hc).elim
  | [_, _], [], hc => exact (none_ hc).elim
  | [_, _], [_], hc => exact (none_ hc).elim
  | [_, _], _ :: _ :: _ :: _, hc => exact (none_ hc).elim
  | _ :: _ :: _ :: _, _, hc => exact (none_ hc).elim
  | [o], [b], hc =>
    have hc : (match dicN P.C S b with
      | some kvs => (negOf o).bind fun neg => (cE P.C N n true S a).map fun a => IE.din kvs neg a
      | none => (cmpOf o).bind fun o => (cE P.C N n true S a).bind fun a => (cE P.C N n true S b).map fun b => IE.cmp o a b) = some i := hc
    cases ed : dicN P.C S b with
    | some kvs =>
      rw [ed] at hc
      obtain ⟨neg, e0, hc⟩ := Option.bind_eq_some_iff.mp hc
      obtain ⟨a', e1, rfl⟩ := Option.map_eq_some_iff.mp hc
      obtain ⟨x, p2, rfl, D, G, hd⟩ := dicN_ok O ed
      exact se_din D G hd e0 (h.e X S _ a' O e1)
    | none =>
    rw [ed] at hc
    obtain ⟨oo, e0, hc⟩ := Option.bind_eq_some_iff.mp hc
    obtain ⟨a', e1, hc⟩ := Option.bind_eq_some_iff.mp hc
    obtain ⟨b', e2, rfl⟩ := Option.map_eq_some_iff.mp hc
    exact se_cmpV O.pk O.kit O.co O.room e0 (h.e X S _ a' O e1) (h.e X S _ b' O e2) ((form_of e2).marks o)
  | [o, o'], [b, c], hc =>
    have hc : ((cmpOf o).bind fun o => (cmpOf o').bind fun p => (cE P.C N n true S a).bind fun a => (cE P.C N n true S b).bind fun b => (cE P.C N n true S c).map fun c => IE.chain o p a b c) = some i := hc
    obtain ⟨oo, e0, hc⟩ := Option.bind_eq_some_iff.mp hc
    obtain ⟨op, e00, hc⟩ := Option.bind_eq_some_iff.mp hc
    obtain ⟨a', e1, hc⟩ := Option.bind_eq_some_iff.mp hc
    obtain ⟨b', e2, hc⟩ := Option.bind_eq_some_iff.mp hc
    obtain ⟨c', e3, rfl⟩ := Option.map_eq_some_iff.mp hc
    exact se_chain O.room.units e0 e00 (h.e X S _ a' O e1) (h.e X S _ b' O e2) (h.e X S _ c' O e3) ((form_of e3).marks o')
theorem nil_of {G : Gs} {es : List Expr} {i : Es} (hl : i.len = es.length) : es = [] → evs G call i = fun _ s => .ok [] s := fun e => by
  subst e
  cases i with
  | nil => rfl
  | cons a b => cases hl
theorem snd_m (h : Snd P call k N n) (O : XOk P call k N X S) {o : Expr} {m : Str} {as : List Expr} {ks : List Keyword} {i : IE} {apos pos : Pos} (hl : (apos.endLine == pos.line) = true) (hs : notSuper o = true) (hc : cMeth P.C N (n + 1) S o m as ks = some i) : SE P.B X (.Call (.Attribute o m apos) as ks pos) (ev P.G call i) := by
  unfold cMeth at hc
  split at hc
  · cases hsm : smN P.C S o m with
    | some f =>
      rw [hsm] at hc
      dsimp only at hc
      split at hc
      · rename_i hb
        simp only [Bool.and_eq_true, decide_eq_true_eq] at hb
        obtain ⟨es, e3, rfl⟩ := Option.map_eq_some_iff.mp hc
        obtain ⟨a1, a2, a3⟩ := h.es X S _ es O e3
        unfold smN at hsm
        split at hsm
        · rename_i x p
          split at hsm
          · rename_i hg
            simp only [Bool.and_eq_true] at hg
            obtain ⟨C, q1, q2⟩ := O.pk.sm x m f hsm
            exact se_stat O.co (O.room.mono (Nat.le_succ k)) (O.pk.bnd _ _ _ _ (O.pk.bse _ hb.2)) (O.gl hg.1) q1 q2 (okName_ok hg.2).1 a1 a2 (nil_of a3) (fun σ s vs s' e => by rw [evs_len es e, a3]) (notSuper_ok hs m X.env) hl hb.1
          · cases hsm
        · cases hsm
      · cases hc
    | none =>
    rw [hsm] at hc
    dsimp only at hc
    split at hc
    · rename_i q; subst q
      split at hc
      · obtain ⟨o', e1, hc⟩ := Option.bind_eq_some_iff.mp hc
        obtain ⟨a', e2, rfl⟩ := Option.map_eq_some_iff.mp hc
        exact se_append (h.e X S _ o' O e1) (h.e X S _ a' O e2) (notSuper_ok hs _ X.env) hl (by unfold plainArgs; simp [(form_of e2).star])
      · cases hc
    split at hc
    · rename_i q; subst q
      split at hc
      · obtain ⟨o', e1, hc⟩ := Option.bind_eq_some_iff.mp hc
        obtain ⟨a', e2, rfl⟩ := Option.map_eq_some_iff.mp hc
        exact se_pop (h.e X S _ o' O e1) (h.e X S _ a' O e2) (notSuper_ok hs _ X.env) hl (by unfold plainArgs; simp [(form_of e2).star])
      · cases hc
    split at hc
    · rename_i q; subst q
      split at hc
      · obtain ⟨o', e1, hc⟩ := Option.bind_eq_some_iff.mp hc
        obtain ⟨a', e2, rfl⟩ := Option.map_eq_some_iff.mp hc
        exact se_join (h.e X S _ o' O e1) (h.e X S _ a' O e2) (notSuper_ok hs _ X.env) hl (by unfold plainArgs; simp [(form_of e2).star])
      · cases hc
    split at hc
    · rename_i q; subst q
      split at hc
      · obtain ⟨o', e1, hc⟩ := Option.bind_eq_some_iff.mp hc
        obtain ⟨a', e2, rfl⟩ := Option.map_eq_some_iff.mp hc
        exact se_split (h.e X S _ o' O e1) (h.e X S _ a' O e2) (notSuper_ok hs _ X.env) hl (by unfold plainArgs; simp [(form_of e2).star])
      · cases hc
    split at hc
    · rename_i q; subst q
      split at hc
      · obtain ⟨o', e1, hc⟩ := Option.bind_eq_some_iff.mp hc
        obtain ⟨a', e2, rfl⟩ := Option.map_eq_some_iff.mp hc
        exact se_starts (h.e X S _ o' O e1) (h.e X S _ a' O e2) (notSuper_ok hs _ X.env) hl (by unfold plainArgs; simp [(form_of e2).star])
      · cases hc
    split at hc
    · rename_i q; subst q
      split at hc
      · obtain ⟨o', e1, hc⟩ := Option.bind_eq_some_iff.mp hc
        obtain ⟨a', e2, rfl⟩ := Option.map_eq_some_iff.mp hc
        exact se_count (h.e X S _ o' O e1) (h.e X S _ a' O e2) (notSuper_ok hs _ X.env) hl (by unfold plainArgs; simp [(form_of e2).star])
      · cases hc
    · obtain ⟨mi, e0, hc⟩ := Option.bind_eq_some_iff.mp hc
      obtain ⟨fs, e1, hc⟩ := Option.bind_eq_some_iff.mp hc
      split at hc
      · rename_i hb
        obtain ⟨o', e2, hc⟩ := Option.bind_eq_some_iff.mp hc
        obtain ⟨es, e3, rfl⟩ := Option.map_eq_some_iff.mp hc
        obtain ⟨a1, a2, a3⟩ := h.es X S _ es O e3
        simp only [Bool.and_eq_true, decide_eq_true_eq] at hb
        refine se_meth O.pk O.co (O.room.mono (Nat.le_succ k)) (O.id e0) (fun c Cl f hC hl' => ?_) (h.e X S _ o' O e2) a1 a2 (by
          intro q
          subst q
          cases es with
          | nil => rfl
          | cons a b => cases a3) (fun σ s vs s' e => by rw [evs_len es e, a3]) (notSuper_ok hs m X.env) hl hb.1
        exact O.pk.bnd _ _ _ _ (O.pk.bse _ (List.all_eq_true.mp hb.2 f (O.pk.ms mi fs c Cl f e1 hC hl')))
      · cases hc
  · cases hc
/-- the keywords of a call -/
theorem kw_names : ∀ {ks : List Keyword} {kn : List Str} {pos : Pos} {env : Env}, argsOfK ks = some kn →
    (backToKw pos (keywordEach ks env)).all (·.1.isSome) = true ∧ (backToKw pos (keywordEach ks env)).filterMap (·.1) = kn ∧ (backToKw pos (keywordEach ks env)).any (·.1.isNone) = false ∧ kn.length = ks.length
  | [], kn, pos, env, h => by simp only [argsOfK] at h; cases h; exact ⟨rfl, rfl, rfl, rfl⟩
  | ⟨a, e, kp⟩ :: ks, kn, pos, env, h => by
    simp only [argsOfK] at h
    cases a with
    | none => cases h
    | some x =>
      obtain ⟨r, e1, rfl⟩ := Option.map_eq_some_iff.mp h
      obtain ⟨h1, h2, h3, h4⟩ := kw_names (pos := pos) (env := env) e1
      have q : backToKw pos (keywordEach (⟨some x, e, kp⟩ :: ks) env) = (some x, do let v ← eval e env; standAt pos; pure v) :: backToKw pos (keywordEach ks env) := rfl
      rw [q]
      exact ⟨by rw [List.all_cons, h1]; rfl, by rw [List.filterMap_cons, h2], by rw [List.any_cons, h3]; rfl, by simp [h4]⟩
theorem nil_ofK {G : Gs} {es : List Keyword} {i : Es} (hl : i.len = es.length) : es = [] → evs G call i = fun _ s => .ok [] s := fun e => by
  subst e
  cases i with
  | nil => rfl
  | cons a b => cases hl
theorem snd_ow (h : Snd P call k N n) (O : XOk P call k N X S) {f : Expr} {as : List Expr} {ks : List Keyword} {i : IE} {pos : Pos} (hne : ∀ b n q, f ≠ .Attribute b n q) (hc : cOwn P.C N (n + 1) S f as ks = some i) : SE P.B X (.Call f as ks pos) (ev P.G call i) := by
  unfold cOwn at hc
  obtain ⟨kn, e1, hc⟩ := Option.bind_eq_some_iff.mp hc
  obtain ⟨mp, e2, hc⟩ := Option.bind_eq_some_iff.mp hc
  obtain ⟨a, e3, hc⟩ := Option.bind_eq_some_iff.mp hc
  obtain ⟨es, e4, hc⟩ := Option.bind_eq_some_iff.mp hc
  obtain ⟨kes, e5, rfl⟩ := Option.map_eq_some_iff.mp hc
  obtain ⟨a1, a2, a3⟩ := h.es X S _ es O e4
  obtain ⟨c1, c2⟩ := h.ks X S _ kes O e5
  obtain ⟨k1, k2, k3, k4⟩ := kw_names (pos := pos) (env := X.env) e1
  unfold ownC at e2
  obtain ⟨m, q1, e2⟩ := Option.bind_eq_some_iff.mp e2
  obtain ⟨fs, q2, e2⟩ := Option.bind_eq_some_iff.mp e2
  obtain ⟨f0, q3, e2⟩ := Option.bind_eq_some_iff.mp e2
  obtain ⟨q, q4, e2⟩ := Option.bind_eq_some_iff.mp e2
  split at e2
  · rename_i hb
    cases e2
    exact se_callO O.pk O.co (O.room.mono (Nat.le_succ k)) (O.id q1) hne (fun c Cl f hC hl' => O.pk.bnd _ _ _ _ (O.pk.bse _ (List.all_eq_true.mp hb f (O.pk.ms m fs c Cl f q2 hC hl')))) (fun c Cl f hC hl' => (O.pk.clo c Cl hC).mfn m f hl')
      (h.e X S _ a O e3) a1 c1 a2 k1 k2 k3 (nil_of a3) (nil_ofK c2) (fun σ s vs s' e => by rw [evs_len es e, a3]) (fun σ s vs s' e => by rw [evs_len kes e, c2, k4])
  · cases e2
theorem b1 {z : Bool} (O : XOk P call k N X S) {x : Str} {a : Expr} {j : IE} {id : String} {r : List V → Hp → VK → Prop} {p pos : Pos} {o : Prim} (hg : isGlob S.sc x = true) (hb : P.C.bis.contains x = true) (F : PySem.W.isStarred a = false) (ha : SE P.B X a (ev P.G call j)) (hn : okName x = true)
    (hc : CallR X (.builtin id) r) (hv : bootBuiltins x = some (.builtin id))
    (hk : ∀ m s H vs xs Q, Match P.B X.K m s H → RVs X.K m s.length H vs xs → Kon P.B X.K (RV X.K) (ownP P.G call o vs s (effO z (prim s o vs) s 31)) m s H Q → r xs H Q) : SE P.B X (.Call (.Name x p) [a] [] pos) (ev P.G call (.prim z o (.cons j .nil))) := by
  obtain ⟨n1, n2, n3⟩ := okName_ok hn
  exact se_callB (fun vs s => ownP P.G call o vs s (effO z (prim s o vs) s 31)) hc (O.gl hg) (O.pk.bis x hb) hv (sa_cons ha sa_nil (star_plain F)) (by unfold plainArgs; simp [F]) n3 n1 hk
theorem t1 {z : Bool} (O : XOk P call k N X S) {x : Str} {a : Expr} {j : IE} {id : String} {r : List V → Hp → VK → Prop} {p pos : Pos} {o : Prim} (hg : isGlob S.sc x = true) (hb : P.C.bis.contains x = true) (F : PySem.W.isStarred a = false) (ha : SE P.B X a (ev P.G call j)) (hn : okName x = true)
    (hc : CallR X (.type id) r) (hv : bootBuiltins x = some (.type id))
    (hk : ∀ m s H vs xs Q, Match P.B X.K m s H → RVs X.K m s.length H vs xs → Kon P.B X.K (RV X.K) (ownP P.G call o vs s (effO z (prim s o vs) s 31)) m s H Q → r xs H Q) : SE P.B X (.Call (.Name x p) [a] [] pos) (ev P.G call (.prim z o (.cons j .nil))) := by
  obtain ⟨n1, n2, n3⟩ := okName_ok hn
  exact se_callTy (fun vs s => ownP P.G call o vs s (effO z (prim s o vs) s 31)) hc (O.gl hg) (O.pk.bis x hb) hv (sa_cons ha sa_nil (star_plain F)) (by unfold plainArgs; simp [F]) n3 n1 hk
theorem b2 {z : Bool} (O : XOk P call k N X S) {x : Str} {a b : Expr} {j l : IE} {id : String} {r : List V → Hp → VK → Prop} {p pos : Pos} {o : Prim} (hg : isGlob S.sc x = true) (hb : P.C.bis.contains x = true) (F : PySem.W.isStarred a = false) (ha : SE P.B X a (ev P.G call j)) (F2 : PySem.W.isStarred b = false) (hbb : SE P.B X b (ev P.G call l)) (hn : okName x = true)
    (hc : CallR X (.builtin id) r) (hv : bootBuiltins x = some (.builtin id))
    (hk : ∀ m s H vs xs Q, Match P.B X.K m s H → RVs X.K m s.length H vs xs → Kon P.B X.K (RV X.K) (ownP P.G call o vs s (effO z (prim s o vs) s 31)) m s H Q → r xs H Q) : SE P.B X (.Call (.Name x p) [a, b] [] pos) (ev P.G call (.prim z o (.cons j (.cons l .nil)))) := by
  obtain ⟨n1, n2, n3⟩ := okName_ok hn
  exact se_callB (fun vs s => ownP P.G call o vs s (effO z (prim s o vs) s 31)) hc (O.gl hg) (O.pk.bis x hb) hv (sa_cons ha (sa_cons hbb sa_nil (star_plain F2)) (star_plain F)) (by unfold plainArgs; simp [F, F2]) n3 n1 hk
theorem snd_c (h : Snd P call k N n) (O : XOk P call k N X S) {x : Str} {as : List Expr} {ks : List Keyword} {i : IE} {p pos : Pos} {z : Bool} (hg : isGlob S.sc x = true) (hn : okName x = true) (hc : cCall P.C N (n + 1) z S x as ks = some i) : SE P.B X (.Call (.Name x p) as ks pos) (ev P.G call i) := by
  unfold cCall at hc
  by_cases hb : P.C.bis.contains x = true
  · rw [if_pos hb] at hc
    split at hc
    · rename_i a
      have key : ∀ {o : Prim} {z : Bool}, (cE P.C N n true S a).map (fun a => IE.prim z o (.cons a .nil)) = some i → ∃ j, cE P.C N n true S a = some j ∧ i = .prim z o (.cons j .nil) := fun {o z} e => by
        obtain ⟨j, e1, e2⟩ := Option.map_eq_some_iff.mp e
        exact ⟨j, e1, e2.symm⟩
      by_cases q : x = ("len" : Str)
      · rw [if_pos q] at hc; subst q; obtain ⟨j, e1, rfl⟩ := key hc
        exact b1 O hg hb (form_of e1).star (h.e X S _ j O e1) hn (CallR.or call_len (call_lenO O.pk O.co O.room)) PySem.boot_len fun m s H vs xs Q M r kk => kon_lenO O.pk M r kk
      rw [if_neg q] at hc; clear q
      by_cases q : x = ("abs" : Str)
      · rw [if_pos q] at hc; subst q; obtain ⟨j, e1, rfl⟩ := key hc
        exact b1 O hg hb (form_of e1).star (h.e X S _ j O e1) hn call_abs PyProof.Rows.boot_abs fun m s H vs xs Q M r kk => kon_abs M r kk
      rw [if_neg q] at hc; clear q
      by_cases q : x = ("int" : Str)
      · rw [if_pos q] at hc; subst q; obtain ⟨j, e1, rfl⟩ := key hc
        exact t1 O hg hb (form_of e1).star (h.e X S _ j O e1) hn (CallR.or call_int1 call_int_str) PyProof.Rows.boot_int fun m s H vs xs Q M r kk => kon_int M r kk
      rw [if_neg q] at hc; clear q
      by_cases q : x = ("str" : Str)
      · rw [if_pos q] at hc; subst q; obtain ⟨j, e1, rfl⟩ := key hc
        exact t1 O hg hb (form_of e1).star (h.e X S _ j O e1) hn call_str_int PyProof.Rows.boot_str fun m s H vs xs Q M r kk => kon_str M r kk
      rw [if_neg q] at hc; clear q
      by_cases q : x = ("sum" : Str)
      · rw [if_pos q] at hc; subst q; obtain ⟨j, e1, rfl⟩ := key hc
        exact b1 O hg hb (form_of e1).star (h.e X S _ j O e1) hn (CallR.or (cr_sum O.calm) (cr_sumT O.calm)) PyProof.Rows.boot_sum fun m s H vs xs Q M r kk => kon_sum M r kk
      rw [if_neg q] at hc; clear q
      by_cases q : x = ("all" : Str)
      · rw [if_pos q] at hc; subst q; obtain ⟨j, e1, rfl⟩ := key hc
        exact b1 O hg hb (form_of e1).star (h.e X S _ j O e1) hn (cr_all O.calm) PyProof.Rows.boot_all fun m s H vs xs Q M r kk => kon_all M r kk
      rw [if_neg q] at hc; clear q
      by_cases q : x = ("any" : Str)
      · rw [if_pos q] at hc; subst q; obtain ⟨j, e1, rfl⟩ := key hc
        exact b1 O hg hb (form_of e1).star (h.e X S _ j O e1) hn (cr_any O.calm) PyProof.Rows.boot_any fun m s H vs xs Q M r kk => kon_any M r kk
      rw [if_neg q] at hc; clear q
      by_cases q : x = ("tuple" : Str)
      · rw [if_pos q] at hc; subst q; obtain ⟨j, e1, rfl⟩ := key hc
        exact t1 O hg hb (form_of e1).star (h.e X S _ j O e1) hn call_tuple_of PyProof.Rows.boot_tuple fun m s H vs xs Q M r kk => kon_tuple M r kk
      rw [if_neg q] at hc; clear q
      by_cases q : x = ("list" : Str)
      · rw [if_pos q] at hc; subst q; obtain ⟨j, e1, rfl⟩ := key hc
        exact t1 O hg hb (form_of e1).star (h.e X S _ j O e1) hn call_list_of PyProof.Rows.boot_list fun m s H vs xs Q M r kk => kon_list M r kk
      rw [if_neg q] at hc; clear q
      by_cases q : x = ("min" : Str)
      · rw [if_pos q] at hc; subst q; obtain ⟨j, e1, rfl⟩ := key hc
        exact b1 O hg hb (form_of e1).star (h.e X S _ j O e1) hn (CallR.or (cr_min O.calm) (cr_minT O.calm O.room.units)) PyProof.Rows.boot_min fun m s H vs xs Q M r kk => kon_min1 M r kk
      rw [if_neg q] at hc; clear q
      by_cases q : x = ("max" : Str)
      · rw [if_pos q] at hc; subst q; obtain ⟨j, e1, rfl⟩ := key hc
        exact b1 O hg hb (form_of e1).star (h.e X S _ j O e1) hn (CallR.or (cr_max O.calm) (cr_maxT O.calm O.room.units)) PyProof.Rows.boot_max fun m s H vs xs Q M r kk => kon_max1 M r kk
      rw [if_neg q] at hc; clear q
      by_cases q : x = ("sorted" : Str)
      · rw [if_pos q] at hc; subst q; obtain ⟨j, e1, rfl⟩ := key hc
        exact b1 O hg hb (form_of e1).star (h.e X S _ j O e1) hn (CallR.or cr_sortedPO cr_sortedPT) PyProof.Rows.boot_sorted fun m s H vs xs Q M r kk => kon_sorted M r kk
      rw [if_neg q] at hc; clear q
      cases hc
    · rename_i a b
      split at hc
      · rename_i q; subst q
        split at hc
        · rename_i es k0 tpos
          obtain ⟨ts, e1, hc⟩ := Option.bind_eq_some_iff.mp hc
          split at hc
          · cases hc
          · rename_i hl
            obtain ⟨j, e2, rfl⟩ := Option.map_eq_some_iff.mp hc
            simp only [Bool.or_eq_true, decide_eq_true_eq, not_or] at hl
            obtain ⟨h1, h2⟩ := tys_ok O e1
            exact se_isiT O.kit h2 (fun z => by rw [z] at hl; exact hl.1 rfl) (Nat.not_lt.mp hl.2) (h.e X S _ j O e2) h1 (O.gl hg) (O.pk.bis _ hb) (form_of e2).star
        · obtain ⟨T, e1, hc⟩ := Option.bind_eq_some_iff.mp hc
          obtain ⟨j, e2, rfl⟩ := Option.map_eq_some_iff.mp hc
          obtain ⟨h1, h2, h3⟩ := tyn_ok O e1
          exact se_isi O.kit h3 (h.e X S _ j O e2) h1 (O.gl hg) (O.pk.bis _ hb) (by unfold plainArgs; simp [(form_of e2).star, h2])
      split at hc
      · rename_i q; subst q
        obtain ⟨j, e1, hc⟩ := Option.bind_eq_some_iff.mp hc
        obtain ⟨l, e2, rfl⟩ := Option.map_eq_some_iff.mp hc
        exact b2 O hg hb (form_of e1).star (h.e X S _ j O e1) (form_of e2).star (h.e X S _ l O e2) hn (call_max2 O.calm) PyProof.Rows.boot_max fun m s H vs xs Q M r kk => kon_mm M r kk
      split at hc
      · rename_i q; subst q
        obtain ⟨j, e1, hc⟩ := Option.bind_eq_some_iff.mp hc
        obtain ⟨l, e2, rfl⟩ := Option.map_eq_some_iff.mp hc
        exact b2 O hg hb (form_of e1).star (h.e X S _ j O e1) (form_of e2).star (h.e X S _ l O e2) hn (call_min2 O.calm) PyProof.Rows.boot_min fun m s H vs xs Q M r kk => kon_mm M r kk
      · cases hc
    · cases hc
  · rw [if_neg hb] at hc
    obtain ⟨n1, n2, n3⟩ := okName_ok hn
    split at hc
    · rename_i f ps hf
      obtain ⟨kn, e1, hc⟩ := Option.bind_eq_some_iff.mp hc
      obtain ⟨perm, e2, hc⟩ := Option.bind_eq_some_iff.mp hc
      split at hc
      · rename_i hbs
        obtain ⟨es, e3, hc⟩ := Option.bind_eq_some_iff.mp hc
        obtain ⟨kes, e4, rfl⟩ := Option.map_eq_some_iff.mp hc
        obtain ⟨a1, a2, a3⟩ := h.es X S _ es O e3
        obtain ⟨c1, c2⟩ := h.ks X S _ kes O e4
        obtain ⟨k1, k2, k3, k4⟩ := kw_names (pos := pos) (env := X.env) e1
        obtain ⟨m1, m2⟩ := O.pk.fns x f ps hf
        exact se_fn O.co (O.room.mono (Nat.le_succ k)) (O.pk.bnd _ _ _ _ (O.pk.bse _ hbs)) (O.gl hg) m1 m2 a1 c1 a2 k1 k2 k3 n1 (nil_of a3) (nil_ofK c2) (fun σ s vs s' e => by rw [evs_len es e, a3]) (fun σ s vs s' e => by rw [evs_len kes e, c2, k4])
      · cases hc
    · split at hc
      · rename_i c f ps hf
        obtain ⟨kn, e1, hc⟩ := Option.bind_eq_some_iff.mp hc
        obtain ⟨perm, e2, hc⟩ := Option.bind_eq_some_iff.mp hc
        split at hc
        · rename_i hbs
          obtain ⟨es, e3, hc⟩ := Option.bind_eq_some_iff.mp hc
          obtain ⟨kes, e4, rfl⟩ := Option.map_eq_some_iff.mp hc
          obtain ⟨a1, a2, a3⟩ := h.es X S _ es O e3
          obtain ⟨c1, c2⟩ := h.ks X S _ kes O e4
          obtain ⟨k1, k2, k3, k4⟩ := kw_names (pos := pos) (env := X.env) e1
          obtain ⟨m1, Cl, hC, rfl⟩ := O.pk.cls x c f ps hf
          exact se_mk O.pk O.co O.room hC (O.pk.bnd _ _ _ _ (O.pk.bse _ hbs)) (O.gl hg) m1 a1 c1 a2 k1 k2 k3 n1 (nil_of a3) (nil_ofK c2) (fun σ s vs s' e => by rw [evs_len es e, a3]) (fun σ s vs s' e => by rw [evs_len kes e, c2, k4])
        · cases hc
      · cases hc
end
end CS
end CSSound2_

section CSSound3_
set_option maxRecDepth 100000
set_option maxHeartbeats 4000000
namespace CS
open PySem L2
section
variable {P : Pk} {call : Nat → List PV → SH → R PV} {k : Nat} {N : List Str} {X : Cx} {S : Scp} {n : Nat}
theorem snd_bin (h : Snd P call k N n) (O : XOk P call k N X S) {a b : Expr} {op : Operator} {pos : Pos} {o : BinO} {a' b' : IE} {z : Bool} (e0 : binOf op = some o) (ha : SE P.B X a (ev P.G call a')) (hb : SE P.B X b (ev P.G call b')) : SE P.B X (.BinOp a op b pos) (ev P.G call (.bin z o a' b')) := by
  have hr := O.room.mono (Nat.le_succ k)
  have no : ∀ {m : Mp} {s : SH} {H : Hp} {v w : PV} {Q : VK}, binP s o v w = none → Kon P.B X.K (RV X.K) (effO z (binP s o v w) s 11) m s H Q → False := fun {m s H v w Q} e kk => by
    rw [e] at kk; exact Kon.bad kk
  cases op <;> cases e0
  · exact se_binV O.pk O.co hr rfl ha hb op_addU fun m s H v w x y Q M rx ry kk => kon_add M rx ry kk
  · exact se_binV O.pk O.co hr rfl ha hb op_sub fun m s H v w x y Q M rx ry kk => kon_sub M rx ry kk
  · exact se_binV O.pk O.co hr rfl ha hb op_mulU fun m s H v w x y Q M rx ry kk => kon_mul M rx ry kk
  · exact se_binV O.pk O.co hr rfl ha hb op_mod fun m s H v w x y Q M rx ry kk => kon_mod M rx ry kk
  · exact se_binV O.pk O.co hr rfl ha hb op_pow fun m s H v w x y Q M rx ry kk => kon_pow M rx ry kk
  · exact se_binV O.pk O.co hr rfl ha hb op_none fun m s H v w x y Q M rx ry kk => no (by cases v <;> cases w <;> rfl) kk
  · exact se_binV O.pk O.co hr rfl ha hb op_none fun m s H v w x y Q M rx ry kk => no (by cases v <;> cases w <;> rfl) kk
  · exact se_binV O.pk O.co hr rfl ha hb op_none fun m s H v w x y Q M rx ry kk => no (by cases v <;> cases w <;> rfl) kk
  · exact se_binV O.pk O.co hr rfl ha hb op_none fun m s H v w x y Q M rx ry kk => no (by cases v <;> cases w <;> rfl) kk
  · exact se_binV O.pk O.co hr rfl ha hb op_fdivU fun m s H v w x y Q M rx ry kk => kon_fdiv M rx ry kk
/-- a list comprehension's parts -/
structure LcAt (P : Pk) (call : Nat → List PV → SH → R PV) (X : Cx) (elt t it : Expr) (ifs : List Expr) (scope : Scope) (own : List (Str × Nat)) (tg : Tg) (it' : It) (ts : IT) (e' : IE) : Prop where
  hsrc : SI P.B X t it (evI P.G call it')
  hfold : ∀ env x, foldedSetIterable it env x = pure x
  hok : BlkOk X.N X.env.scope scope own
  htg : ∀ (s : Shared) (H : Hp) (C : Addr) (cl : List (Str × Addr)) (fp : List Addr), PG (X.blk s H scope (compEnvC scope cl C X.env) fp) t (gTg X.K tg)
  htst : ∀ (s : Shared) (H : Hp) (C : Addr) (cl : List (Str × Addr)) (fp : List Addr), PTs (X.blk s H scope (compEnvC scope cl C X.env) fp) ifs (TTi P.B X.K (evT P.G call ts))
  helt : ∀ (s : Shared) (H : Hp) (C : Addr) (cl : List (Str × Addr)) (fp : List Addr), PE (X.blk s H scope (compEnvC scope cl C X.env) fp) elt (TEi P.B X.K (ev P.G call e'))
  hnm : (∃ i, tg = .name i) ∨ ∃ is, tg = .names is
  hown : ∀ i ∈ tgSlots tg, i ∈ own.map (·.2)
theorem tn_form {S : Scp} {e : Expr} {t : Tg} (h : cTn N S e = some t) : (∃ i, t = .name i) ∨ ∃ is, t = .names is := by
  unfold cTn at h
  split at h
  · obtain ⟨i, e1, rfl⟩ := Option.map_eq_some_iff.mp h; exact .inl ⟨i, rfl⟩
  · obtain ⟨i, e1, rfl⟩ := Option.map_eq_some_iff.mp h; exact .inr ⟨i, rfl⟩
  · cases h
theorem snd_lc (h : Snd P call k N n) (O : XOk P call k N X S) {elt t it : Expr} {ifs : List Expr} {scope : Scope} {pos : Pos} {i : IE} {z : Bool} (hc : cE P.C N (n + 1) z S (.ListComp elt [⟨t, it, ifs, 0⟩] scope pos) = some i) :
    ∃ tg it' ts e', i = .comp z e' ((ownOf N scope).map (·.2)) tg it' ts ∧ LcAt P call X elt t it ifs scope (ownOf N scope) tg it' ts e' := by
  have hc : (if blkC N S.sc scope (ownOf N scope) = true then
        (cTn N (S.blk scope) t).bind fun tg => if ((tgSlotsC tg).all fun i => ((ownOf N scope).map (·.2)).contains i) = true then
          (cI P.C N n S t it).bind fun it => (cIf P.C N n (S.blk scope) ifs).bind fun ts => (cE P.C N n z (S.blk scope) elt).map fun e => IE.comp z e ((ownOf N scope).map (·.2)) tg it ts
        else none
      else none) = some i := hc
  split at hc
  · rename_i hb
    obtain ⟨tg, e1, hc⟩ := Option.bind_eq_some_iff.mp hc
    split at hc
    · rename_i hw
      obtain ⟨it', e2, hc⟩ := Option.bind_eq_some_iff.mp hc
      obtain ⟨ts, e3, hc⟩ := Option.bind_eq_some_iff.mp hc
      obtain ⟨e', e4, rfl⟩ := Option.map_eq_some_iff.mp hc
      have ok : BlkOk X.N X.env.scope scope (ownOf N scope) := by
        rw [O.nN, O.sc]
        exact L2.blkOk_by hb
      have OB := fun s H C cl fp => O.blk s H scope ok.kind C cl fp
      obtain ⟨s1, s2⟩ := h.i X S t it it' O e2
      refine ⟨tg, it', ts, e', rfl, s1, s2, ok, fun s H C cl fp => (tn_ok (OB s H C cl fp) e1).1, fun s H C cl fp => h.f _ _ _ _ (OB s H C cl fp) e3, fun s H C cl fp => h.e _ _ _ _ (OB s H C cl fp) e4, ?_, ?_⟩
      · exact tn_form e1
      · intro j hj
        have := List.all_eq_true.mp hw j (by cases tg <;> exact hj)
        simpa using this
    · cases hc
  · cases hc
theorem LcAt.se {z : Bool} {elt t it : Expr} {ifs : List Expr} {scope : Scope} {pos : Pos} {own : List (Str × Nat)} {tg : Tg} {it' : It} {ts : IT} {e' : IE} (O : XOk P call k N X S) (h : LcAt P call X elt t it ifs scope own tg it' ts e') :
    SE P.B X (.ListComp elt [⟨t, it, ifs, 0⟩] scope pos) (ev P.G call (.comp z e' (own.map (·.2)) tg it' ts)) :=
  (pe_lc O.calm O.nodup h.hsrc h.hok h.htg h.htst h.helt (h.hfold X.env)).imp fun τ H Q q => lc_read h.hnm h.hown q
theorem snd_e (h : Snd P call k N n) (O : XOk P call k N X S) {e : Expr} {i : IE} {z : Bool} (hc : cE P.C N (n + 1) z S e = some i) : SE P.B X e (ev P.G call i) := by
  have none_ : (none : Option IE) = some i → False := fun z => by cases z
  cases e with
  | Constant c j pos =>
    have hc : (constOf c).map IE.c = some i := hc
    obtain ⟨v, e1, rfl⟩ := Option.map_eq_some_iff.mp hc
    cases c <;> cases e1
    · exact se_non
    · exact se_bl
    · exact se_int
    · exact se_str
  | Name x pos =>
    have hc : (if !okName x then none else if isLoc S.sc x then (slotOf N x).map IE.v else if isGlob S.sc x then (P.C.consts.lookup x).map IE.c else none) = some i := hc
    split at hc
    · cases hc
    · rename_i hn
      have hn : okName x = true := by simpa using hn
      obtain ⟨n1, n2, n3⟩ := okName_ok hn
      split at hc
      · rename_i hl
        obtain ⟨j, e1, rfl⟩ := Option.map_eq_some_iff.mp hc
        exact se_v (O.at_ e1) (O.vis hl) n1 n2
      · split at hc
        · rename_i hg
          obtain ⟨v, e1, rfl⟩ := Option.map_eq_some_iff.mp hc
          obtain ⟨y, u, h1, h2, h3⟩ := O.pk.consts x v e1
          exact se_c (pe_glob (O.gl hg) h1 h2 n1) h3
        · cases hc
  | BinOp a o b pos =>
    have hc : ((binOf o).bind fun o => (cE P.C N n true S a).bind fun a => (cE P.C N n true S b).map fun b => IE.bin z o a b) = some i := hc
    obtain ⟨oo, e0, hc⟩ := Option.bind_eq_some_iff.mp hc
    obtain ⟨a', e1, hc⟩ := Option.bind_eq_some_iff.mp hc
    obtain ⟨b', e2, rfl⟩ := Option.map_eq_some_iff.mp hc
    exact snd_bin h O e0 (h.e X S _ a' O e1) (h.e X S _ b' O e2)
  | UnaryOp op a pos =>
    cases op with
    | USub =>
      have hc : ((cE P.C N n true S a).map fun a => IE.prim true .neg (.cons a .nil)) = some i := hc
      obtain ⟨a', e1, rfl⟩ := Option.map_eq_some_iff.mp hc
      exact se_neg (h.e X S _ a' O e1)
    | Not =>
      have hc : ((cE P.C N n true S a).map IE.not_) = some i := hc
      obtain ⟨a', e1, rfl⟩ := Option.map_eq_some_iff.mp hc
      exact se_not (h.e X S _ a' O e1)
    | _ => exact (none_ hc).elim
  | BoolOp o vs pos =>
    match vs, hc with
    | [], hc => exact (none_ hc).elim
    | [a], hc => exact se_one (h.e X S _ i O hc)
    | a :: b :: r, hc =>
      cases o with
      | And =>
        have hc : ((cE P.C N n z S a).bind fun a => (cE P.C N n z S (.BoolOp .And (b :: r) pos)).map fun b => IE.and_ a b) = some i := hc
        obtain ⟨a', e1, hc⟩ := Option.bind_eq_some_iff.mp hc
        obtain ⟨b', e2, rfl⟩ := Option.map_eq_some_iff.mp hc
        exact se_and (h.e X S _ a' O e1) (h.e X S _ b' O e2)
      | Or =>
        have hc : ((cE P.C N n z S a).bind fun a => (cE P.C N n z S (.BoolOp .Or (b :: r) pos)).map fun b => IE.or_ a b) = some i := hc
        obtain ⟨a', e1, hc⟩ := Option.bind_eq_some_iff.mp hc
        obtain ⟨b', e2, rfl⟩ := Option.map_eq_some_iff.mp hc
        exact se_or (h.e X S _ a' O e1) (h.e X S _ b' O e2)
  | Compare a os bs p => exact (snd_cmp h O hc).1
  | IfExp c a b pos =>
    have hc : ((cB P.C N n S c).bind fun c => (cE P.C N n z S a).bind fun a => (cE P.C N n z S b).map fun b => IE.ite c a b) = some i := hc
    obtain ⟨c', e0, hc⟩ := Option.bind_eq_some_iff.mp hc
    obtain ⟨a', e1, hc⟩ := Option.bind_eq_some_iff.mp hc
    obtain ⟨b', e2, rfl⟩ := Option.map_eq_some_iff.mp hc
    exact se_ite (h.b X S _ c' O e0) (h.e X S _ a' O e1) (h.e X S _ b' O e2)
  | Tuple es j pos =>
    have hc : ((cEs P.C N n z S es).map fun es => IE.prim true .tup es) = some i := hc
    obtain ⟨a', e1, rfl⟩ := Option.map_eq_some_iff.mp hc
    exact se_tup (h.es X S _ a' O e1).1
  | List es pos =>
    have hc : (if es.any isStar then (cDs P.C N n z S es).map fun ds => IE.disp z ds else (cEs P.C N n z S es).map fun es => IE.prim z .lst es) = some i := hc
    split at hc
    · obtain ⟨a', e1, rfl⟩ := Option.map_eq_some_iff.mp hc
      exact se_dispS (h.ds X S _ a' O e1)
    · obtain ⟨a', e1, rfl⟩ := Option.map_eq_some_iff.mp hc
      exact se_lst (h.es X S _ a' O e1).1
  | Subscript a b pos =>
    have gen : (match dicN P.C S a with
      | some kvs => (cE P.C N n true S b).map fun i => IE.dget kvs i
      | none => (cE P.C N n true S a).bind fun a => (cE P.C N n true S b).map fun i => IE.prim true .ix (.cons a (.cons i .nil))) = some i → SE P.B X (.Subscript a b pos) (ev P.G call i) := fun hc => by
      cases ed : dicN P.C S a with
      | some kvs =>
        rw [ed] at hc
        obtain ⟨b', e2, rfl⟩ := Option.map_eq_some_iff.mp hc
        obtain ⟨x, p2, rfl, D, G, hd⟩ := dicN_ok O ed
        exact se_dget D G hd (h.e X S _ b' O e2) (form_of e2).ix
      | none =>
      rw [ed] at hc
      obtain ⟨a', e1, hc⟩ := Option.bind_eq_some_iff.mp hc
      obtain ⟨b', e2, rfl⟩ := Option.map_eq_some_iff.mp hc
      exact se_ixO O.pk O.co O.room (h.e X S _ a' O e1) (h.e X S _ b' O e2) (form_of e2).ix (form_of e2).ixo
    cases b with
    | Slice lo hi st q =>
      cases st with
      | some st =>
        unfold cE at hc
        split at hc
        all_goals first
          | (cases ‹Expr.Subscript _ _ _ = _›; obtain ⟨a', e1, rfl⟩ := Option.map_eq_some_iff.mp hc; exact se_rev (h.e X S _ a' O e1))
          | (cases ‹Expr.Subscript _ _ _ = _›; exact gen hc)
          | cases ‹Expr.Subscript _ _ _ = _›
          | cases hc
      | none =>
        have hc : ((cE P.C N n true S a).bind fun a => (cO P.C N n S lo).bind fun l => (cO P.C N n S hi).map fun h => IE.slice z a l h) = some i := by
          unfold cE at hc
          split at hc
          all_goals first
            | (cases ‹Expr.Subscript _ _ _ = _›; exact hc)
            | (cases ‹Expr.Subscript _ _ _ = _›; rename_i q2 _; exact (q2 _ _ _ rfl).elim)
            | (cases ‹Expr.Subscript _ _ _ = _›; rename_i q2; exact (q2 _ _ _ rfl).elim)
            | cases ‹Expr.Subscript _ _ _ = _›
            | cases hc
        obtain ⟨a', e1, hc⟩ := Option.bind_eq_some_iff.mp hc
        obtain ⟨l', e2, hc⟩ := Option.bind_eq_some_iff.mp hc
        obtain ⟨u', e3, rfl⟩ := Option.map_eq_some_iff.mp hc
        exact se_slice (h.e X S _ a' O e1) (h.o X S _ l' O e2) (h.o X S _ u' O e3)
    | _ => exact gen hc
  | Attribute a f pos =>
    have hc : (if notSuper a then (idOf P.C f).bind fun f => (cE P.C N n true S a).map fun a => IE.attr a f else none) = some i := hc
    split at hc
    · rename_i hs
      obtain ⟨f', e1, hc⟩ := Option.bind_eq_some_iff.mp hc
      obtain ⟨a', e2, rfl⟩ := Option.map_eq_some_iff.mp hc
      exact se_attr O.pk O.co O.room (O.id e1) (h.e X S _ a' O e2) (notSuper_ok hs f X.env)
    · cases hc
  | JoinedStr vs pos =>
    have hc : (if 2 ≤ vs.length then (cFs P.C N n S vs).map fun es => IE.prim true .fmt es else none) = some i := hc
    split at hc
    · rename_i hl
      obtain ⟨a', e1, rfl⟩ := Option.map_eq_some_iff.mp hc
      obtain ⟨rs, h1, h2⟩ := h.fs X S _ a' O e1
      have := se_fstr (z := true) (pos := pos) h1 hl
      rw [h2] at this
      exact this
    · cases hc
  | ListComp elt gs scope pos =>
    match gs, hc with
    | [], hc => exact (none_ hc).elim
    | [⟨t, it, ifs, j⟩], hc =>
      cases j with
      | negSucc m => exact (none_ hc).elim
      | ofNat m =>
        cases m with
        | succ m => exact (none_ hc).elim
        | zero =>
          obtain ⟨tg, it', ts, e', rfl, L⟩ := snd_lc h O hc
          exact L.se O
    | ⟨_, _, _, j⟩ :: _ :: _, hc =>
      cases j with
      | negSucc m => exact (none_ hc).elim
      | ofNat m =>
        cases m with
        | succ m => exact (none_ hc).elim
        | zero => exact (none_ hc).elim
  | Call f as ks pos =>
    cases f with
    | Name x p =>
      have hc : (if isGlob S.sc x && okName x then cCall P.C N n z S x as ks else cOwn P.C N n S (.Name x p) as ks) = some i := hc
      split at hc
      · rename_i hg
        simp only [Bool.and_eq_true] at hg
        exact h.c X S x as ks i p pos O hg.1 hg.2 hc
      · exact h.ow X S _ as ks i pos O (fun b n q z => by cases z) hc
    | Attribute o m apos =>
      have hc : (if apos.endLine == pos.line && notSuper o then cMeth P.C N n S o m as ks else none) = some i := hc
      split at hc
      · rename_i hs
        simp only [Bool.and_eq_true] at hs
        exact h.m X S o m as ks i apos pos O hs.1 hs.2 hc
      · cases hc
    | _ => exact h.ow X S _ as ks i pos O (fun b n q z => by cases z) hc
  | _ => exact (none_ hc).elim
/-- the compilers of expressions are sound -/
theorem snd : ∀ n, Snd P call k N n
  | 0 => snd0
  | n + 1 =>
    have h := snd n
    ⟨fun _ _ _ _ {_} O hc => snd_e h O hc, fun _ _ _ _ _ _ _ {_} O hc => snd_cmp h O hc, fun _ _ _ _ _ _ _ _ {_} O hg hn hc => snd_c h O hg hn hc, fun _ _ _ _ _ _ _ _ _ O h1 h2 hc => snd_m h O h1 h2 hc, fun _ _ _ _ _ _ _ O h1 hc => snd_ow h O h1 hc, fun _ _ _ _ O hc => snd_b h O hc, fun _ _ _ _ _ _ O hc => snd_w h O hc, fun _ _ _ _ O hc => snd_if h O hc,
      fun _ _ _ _ {_} O hc => snd_es h O hc, fun _ _ _ _ {_} O hc => snd_ds h O hc, fun _ _ _ _ O hc => snd_ks h O hc, fun _ _ _ _ O hc => snd_o h O hc, fun _ _ _ _ O hc => snd_fs h O hc, fun _ _ _ _ _ O hc => snd_i h O hc⟩
end
end CS
end CSSound3_

section CSSound4_
set_option maxRecDepth 100000
set_option maxHeartbeats 4000000
namespace CS
open PySem L2
section
variable {P : Pk} {call : Nat → List PV → SH → R PV} {k : Nat} {N : List Str} {X : Cx} {S : Scp} {n : Nat}
theorem XOk.block (O : XOk P call k N X S) : X.env.blockKind = .function := by
  unfold Env.blockKind
  rw [O.sc, O.kind]; rfl
theorem noName_ok {t e : Expr} (h : ∀ x p, t ≠ .Name x p) (l : Nat) (env : Env) : swapsWith e (some t) l env = pure false := by
  cases t with
  | Name x p => exact absurd rfl (h x p)
  | _ => cases e <;> rfl
theorem swapped_other {ts : List Expr} {kt : Nat} {p : Pos} {e : Expr} {env : Env} (h : ∀ vs k2 p2, e ≠ .Tuple vs k2 p2) : swappedStores [.Tuple ts kt p] e env = pure none := by
  cases e with
  | Tuple vs k2 p2 => exact absurd rfl (h vs k2 p2)
  | _ => rfl
def stOf (vs : List Expr) (o : Option (List Str)) : Sem (Option (List Str)) := match o with | none => pure none | some names => if vs.all (constantsAlone 8) then unsupported "assign.tuple-of-constant-expressions:order-of-the-stores" else pure (some names)
theorem swapped_tuple (O : XOk P call k N X S) {ts vs : List Expr} {kt k2 : Nat} {p p2 : Pos} (hp : plainArgs vs = true) : swappedStores [.Tuple ts kt p] (.Tuple vs k2 p2) X.env = stOf vs (parNames S ts vs) := by
  have hst : ∀ (f : Expr → Bool), (∀ v, PySem.W.isStarred v = false → f v = false) → ¬ (vs.any f = true) := fun f hf => by
    unfold plainArgs at hp
    rw [Bool.not_eq_true, List.any_eq_false]
    intro v hv
    rw [hf v (by simpa using List.all_eq_true.mp hp v hv)]
    simp
  have hk : ∀ id, X.env.kindOf id = S.sc.names.lookup id := fun id => by unfold Env.kindOf; rw [O.sc]
  have key : ∀ f : Expr → Option Str, (∀ t, f t = parF S ((ts.head?.map (·.pos.line)).getD 0) t) → ts.filterMap f = ts.filterMap (parF S ((ts.head?.map (·.pos.line)).getD 0)) := fun f hf => by rw [funext hf]
  unfold swappedStores parNames
  simp only [O.block, hk, show (ScopeKind.function != ScopeKind.function) = false from rfl, Bool.or_false]
  split
  · rfl
  · rename_i h1
    rw [if_neg (hst _ fun v hv => by cases v <;> first | rfl | exact absurd (show true = false from hv) (by simp))]
    rw [key]
    · split
      · rfl
      · split
        · rfl
        · rfl
    · intro t
      cases t <;> rfl
/-- the names of stores in parallel -/
theorem par_name {S : Scp} {line : Nat} {t : Expr} {x : Str} (h : parF S line t = some x) : ∃ p, t = .Name x p ∧ S.sc.names.lookup x = some .local := by
  unfold parF at h
  split at h
  · rename_i id p
    split at h
    · rename_i hc
      cases h
      simp only [Bool.and_eq_true] at hc
      exact ⟨p, rfl, by have := hc.1; simpa using this⟩
    · cases h
  · cases h
theorem tgn_eq {x : Str} {p : Pos} {es : List Expr} {is : List Nat} (h : cTgs N S (.Name x p :: es) = some is) : ∃ i js, is = i :: js ∧ cTgN N S (.Name x p) = some i ∧ cTgs N S es = some js := by
  simp only [cTgs] at h
  obtain ⟨i, e1, h⟩ := Option.bind_eq_some_iff.mp h
  obtain ⟨js, e2, rfl⟩ := Option.map_eq_some_iff.mp h
  exact ⟨i, js, rfl, e1, e2⟩
theorem fm2 {α β : Type} {f : α → Option β} {a b : α} (h : ([a, b].filterMap f).length = 2) : ∃ x y, f a = some x ∧ f b = some y ∧ [a, b].filterMap f = [x, y] := by
  cases ha : f a with
  | none =>
    rw [List.filterMap_cons, ha] at h
    cases hb : f b <;> simp [List.filterMap_cons, hb] at h
  | some x =>
    cases hb : f b with
    | none => simp [List.filterMap_cons, ha, hb] at h
    | some y => exact ⟨x, y, rfl, rfl, by simp [ha, hb]⟩
theorem fm3 {α β : Type} {f : α → Option β} {a b c : α} (h : ([a, b, c].filterMap f).length = 3) : ∃ x y z, f a = some x ∧ f b = some y ∧ f c = some z ∧ [a, b, c].filterMap f = [x, y, z] := by
  cases ha : f a <;> cases hb : f b <;> cases hc : f c <;> simp [List.filterMap_cons, ha, hb, hc] at h
  exact ⟨_, _, _, rfl, rfl, rfl, by simp [ha, hb, hc]⟩
theorem ded3 {x y z : Str} (h : [x, y, z].eraseDups.length = 3) : x ≠ y ∧ x ≠ z ∧ y ≠ z := by
  by_cases h1 : y = x
  · exfalso
    subst h1
    by_cases h2 : z = y
    · subst h2; simp [List.eraseDups_cons] at h
    · simp [List.eraseDups_cons, List.filter_cons, h2] at h
  · by_cases h2 : z = x
    · exfalso
      subst h2
      simp [List.eraseDups_cons, List.filter_cons, h1] at h
    · by_cases h3 : z = y
      · exfalso
        subst h3
        simp [List.eraseDups_cons, List.filter_cons, h1] at h
      · exact ⟨fun q => h1 q.symm, fun q => h2 q.symm, fun q => h3 q.symm⟩
theorem tup_asg {G : Gs} {call : Nat → List PV → SH → R PV} {vs : Es} {is : List Nat} : (ex G call (.asg (.names is) (.prim true .tup vs))) = fun σ s => flE ((evs G call vs σ s).bind fun vs s => effO true (prim s .tup vs) s 31) fun v s => match v with
    | .tup xs => (match setSl σ is xs with | some σ' => Fl.next σ' s | none => Fl.bad 49)
    | _ => Fl.bad 50 := by
  funext σ s
  simp only [ex, ev]
  cases evs G call vs σ s with
  | bad w => rfl
  | ok xs s1 =>
    show flE (effO true (pTup xs) s1 31) _ = flE (effO true (pTup xs) s1 31) _
    unfold pTup
    split
    · show asg G call (.names is) (.tup xs) σ s1 = _
      simp only [asg, seqOf]
      rfl
    · rfl
theorem s_tup (h : Snd P call k N n) (O : XOk P call k N X S) {ts : List Expr} {kt : Nat} {pt pos : Pos} {e : Expr} {is : List Nat} {e' : IE} (hp : parOk S ts e = true) (e1 : cTgs N S ts = some is) {z : Bool} (e2 : cE P.C N n z S e = some e') :
    SS P.B X (.Assign [.Tuple ts kt pt] e pos) (ex P.G call (.asg (.names is) e')) := by
  have plain : swappedStores [.Tuple ts kt pt] e X.env = pure none → SS P.B X (.Assign [.Tuple ts kt pt] e pos) (ex P.G call (.asg (.names is) e')) := fun hw =>
    s_names O.calm O.nodup (tgs_ok O e1) (h.e X S _ e' O e2) (noName_ok (t := .Tuple ts kt pt) (fun _ _ => by simp) pos.line X.env) hw
  cases e with
  | Tuple vs k2 p2 =>
    cases n with
    | zero => simp [cE] at e2
    | succ n =>
      have e2 : ((cEs P.C N n z S vs).map fun es => IE.prim true .tup es) = some e' := e2
      obtain ⟨vs', e3, rfl⟩ := Option.map_eq_some_iff.mp e2
      obtain ⟨a1, a2, a3⟩ := (snd (P := P) (call := call) (k := k) (N := N) n).es X S _ vs' O e3
      have sw := swapped_tuple (kt := kt) (k2 := k2) (p := pt) (p2 := p2) (ts := ts) O a2
      unfold parOk at hp
      cases hn : parNames S ts vs with
      | none =>
        rw [hn] at sw
        exact plain sw
      | some names =>
        rw [hn] at sw
        simp only [hn, Bool.not_eq_true'] at hp
        simp only [stOf, hp] at sw
        have sw : swappedStores [.Tuple ts kt pt] (.Tuple vs k2 p2) X.env = pure (some names) := sw
        unfold parNames at hn
        split at hn
        · cases hn
        · rename_i hl
          simp only at hn
          split at hn
          · cases hn
          · rename_i hd
            split at hn
            · cases hn
            · cases hn
              simp only [Bool.or_eq_true, Bool.not_eq_true', not_or, Bool.not_eq_false, bne_iff_ne, Decidable.not_not, beq_iff_eq] at hl hd
              obtain ⟨hl1, hl2⟩ := hl
              obtain ⟨hd1, hd2⟩ := hd
              have ne_of : ∀ {x y : Str} {i j : Nat}, x ≠ y → X.N[i]? = some x → X.N[j]? = some y → i ≠ j := fun hne h1 h2 q => by subst q; rw [h1] at h2; cases h2; exact hne rfl
              rcases hl1 with hl1 | hl1
              · match ts, vs, hl1, hl2, hd1, hd2, sw, e1, a1 with
                | [t1, t2], [v1, v2], _, _, hd1, hd2, sw, e1, a1 =>
                  obtain ⟨x, y, q1, q2, nm2⟩ := fm2 hd1
                  rw [nm2] at sw hd2
                  obtain ⟨px, rfl, lx⟩ := par_name q1
                  obtain ⟨py, rfl, ly⟩ := par_name q2
                  obtain ⟨i, js, rfl, t1, e1⟩ := tgn_eq e1
                  obtain ⟨j, ls, rfl, t2, e1⟩ := tgn_eq e1
                  simp only [cTgs] at e1; cases e1
                  have hxy : x ≠ y := fun q => by subst q; simp [List.eraseDups_cons] at hd2
                  rw [tup_asg]; exact s_par O.calm O.nodup (tgn_ok O t1).1 (tgn_ok O t2).1 (ne_of hxy (tgn_ok O t1).1 (tgn_ok O t2).1) (by rw [O.sc]; exact lx) (by rw [O.sc]; exact ly) a1 sw
              · match ts, vs, hl1, hl2, hd1, hd2, sw, e1, a1 with
                | [t1, t2, t3], [v1, v2, v3], _, _, hd1, hd2, sw, e1, a1 =>
                  obtain ⟨x, y, z, q1, q2, q3, nm3⟩ := fm3 hd1
                  rw [nm3] at sw hd2
                  obtain ⟨px, rfl, lx⟩ := par_name q1
                  obtain ⟨py, rfl, ly⟩ := par_name q2
                  obtain ⟨pz, rfl, lz⟩ := par_name q3
                  obtain ⟨i, js, rfl, t1, e1⟩ := tgn_eq e1
                  obtain ⟨j, ls, rfl, t2, e1⟩ := tgn_eq e1
                  obtain ⟨l, ms, rfl, t3, e1⟩ := tgn_eq e1
                  simp only [cTgs] at e1; cases e1
                  obtain ⟨hxy, hxz, hyz⟩ := ded3 (by rw [hd2]; rfl)
                  rw [tup_asg]; exact s_par3 O.calm O.nodup (tgn_ok O t1).1 (tgn_ok O t2).1 (tgn_ok O t3).1 (ne_of hxy (tgn_ok O t1).1 (tgn_ok O t2).1) (ne_of hxz (tgn_ok O t1).1 (tgn_ok O t3).1) (ne_of hyz (tgn_ok O t2).1 (tgn_ok O t3).1) (by rw [O.sc]; exact lx) (by rw [O.sc]; exact ly) (by rw [O.sc]; exact lz) a1 sw
  | _ => exact plain (swapped_other fun _ _ _ => by simp)
/-- x = e -/
theorem s_name (h : Snd P call k N n) (O : XOk P call k N X S) {x : Str} {px pos : Pos} {e : Expr} {i : Nat} {e' : IE} (e1 : cTgN N S (.Name x px) = some i) {z : Bool} (e2 : cE P.C N n z S e = some e') :
    SS P.B X (.Assign [.Name x px] e pos) (ex P.G call (.asg (.name i) e')) := by
  obtain ⟨t1, t2, t3⟩ := tgn_ok O e1
  have plain : swapsWith e (some (.Name x px)) pos.line X.env = pure false → SS P.B X (.Assign [.Name x px] e pos) (ex P.G call (.asg (.name i) e')) := fun hs => s_set O.nodup t1 t2 (h.e X S _ e' O e2) hs t3
  cases hn : notComp e with
  | true => exact plain (notComp_ok hn _ _ _)
  | false =>
    cases n with
    | zero => simp [cE] at e2
    | succ n =>
      have none_ : (none : Option IE) = some e' → False := fun z => by cases z
      cases e with
      | ListComp elt gs scope cpos =>
        have hsw : swapsWith (.ListComp elt gs scope cpos) (some (.Name x px)) pos.line X.env = pure (X.env.blockKind == .function && X.env.kindOf x == some .local && px.line == cpos.line && !(scope.names.any fun (n, k) => n == x && (k == .local || k == .cell))) := rfl
        cases hb : (X.env.blockKind == .function && X.env.kindOf x == some .local && px.line == cpos.line && !(scope.names.any fun (n, k) => n == x && (k == .local || k == .cell))) with
        | false => rw [hb] at hsw; exact plain hsw
        | true =>
          rw [hb] at hsw
          simp only [Bool.and_eq_true] at hb
          have hyl : X.env.scope.names.lookup x = some .local := by
            have := hb.1.1.2
            simpa [Env.kindOf] using this
          have key : ∀ t it ifs, gs = [⟨t, it, ifs, 0⟩] → SS P.B X (.Assign [.Name x px] (.ListComp elt gs scope cpos) pos) (ex P.G call (.asg (.name i) e')) := fun t it ifs q => by
            subst q
            obtain ⟨tg, it', ts, e'', rfl, L⟩ := snd_lc (snd (P := P) (call := call) (k := k) (N := N) n) O e2
            refine (ps_setLc O.calm O.nodup t1 hyl hsw L.hsrc L.hok L.htg L.htst L.helt (L.hfold X.env)).imp fun D τ H ⟨m, s, σ, sk, kk⟩ => ?_
            refine lc_read (z := z) (G := P.G) (call := call) L.hnm L.hown ?_
            exact TEi.bindF (f := fun σ v s => asg P.G call (.name i) v σ s) sk kk fun v s1 m1 H1 y g st1 rv k1 => KonF.next st1.mt k1 (st1.set rv)
          match gs, e2, key with
          | [], e2, _ => exact (none_ e2).elim
          | [⟨t, it, ifs, j⟩], e2, key =>
            cases j with
            | negSucc m => exact (none_ e2).elim
            | ofNat m =>
              cases m with
              | succ m => exact (none_ e2).elim
              | zero => exact key t it ifs rfl
          | ⟨_, _, _, j⟩ :: _ :: _, e2, _ =>
            cases j with
            | negSucc m => exact (none_ e2).elim
            | ofNat m =>
              cases m with
              | succ m => exact (none_ e2).elim
              | zero => exact (none_ e2).elim
      | SetComp => exact (none_ e2).elim
      | DictComp => exact (none_ e2).elim
      | _ => cases hn
/-- statements -/
structure SndS (P : Pk) (call : Nat → List PV → SH → R PV) (k : Nat) (N : List Str) (n : Nat) : Prop where
  s : ∀ X S st i, XOk P call k N X S → cS P.C N n S st = some i → SS P.B X st (ex P.G call i)
  ss : ∀ X S sts i, XOk P call k N X S → cSs P.C N n S sts = some i → SSs P.B X sts (exs P.G call i)
theorem snd_ss (h : SndS P call k N n) (O : XOk P call k N X S) {sts : List Stmt} {i : Ss} (hc : cSs P.C N (n + 1) S sts = some i) : SSs P.B X sts (exs P.G call i) := by
  unfold cSs at hc
  split at hc
  · cases hc; exact ss_nil
  · obtain ⟨b, e2, rfl⟩ := Option.map_eq_some_iff.mp hc
    rename_i st sts
    cases e1 : cS P.C N n S st with
    | some a => exact ss_cons (h.s X S _ a O e1) (h.ss X S _ b O e2)
    | none => exact ss_cons s_never (h.ss X S _ b O e2)
theorem snd_s (h : SndS P call k N n) (O : XOk P call k N X S) {st : Stmt} {i : IS} (hc : cS P.C N (n + 1) S st = some i) : SS P.B X st (ex P.G call i) := by
  have E := snd (P := P) (call := call) (k := k) (N := N) n
  unfold cS at hc
  split at hc
  · obtain ⟨j, e1, hc⟩ := Option.bind_eq_some_iff.mp hc
    obtain ⟨e', e2, rfl⟩ := Option.map_eq_some_iff.mp hc
    exact s_name E O e1 e2
  · split at hc
    · rename_i hp
      obtain ⟨is, e1, hc⟩ := Option.bind_eq_some_iff.mp hc
      obtain ⟨e', e2, rfl⟩ := Option.map_eq_some_iff.mp hc
      exact s_tup E O hp e1 e2
    · cases hc
  · rename_i a b p e pos
    split at hc
    · cases hc
    · rename_i hns
      obtain ⟨a', e1, hc⟩ := Option.bind_eq_some_iff.mp hc
      obtain ⟨b', e2, hc⟩ := Option.bind_eq_some_iff.mp hc
      obtain ⟨e', e3, rfl⟩ := Option.map_eq_some_iff.mp hc
      exact s_sub (E.e X S _ a' O e1) (E.e X S _ b' O e2) (E.e X S _ e' O e3) hns (noName_ok (t := .Subscript a b p) (fun _ _ => by simp) pos.line X.env) (by cases e <;> rfl) (by cases b with | Slice lo hi st q => exact absurd rfl (hns lo hi st q) | _ => exact fun v => rfl)
  · rename_i a f p e pos
    obtain ⟨f', e0, hc⟩ := Option.bind_eq_some_iff.mp hc
    obtain ⟨a', e1, hc⟩ := Option.bind_eq_some_iff.mp hc
    obtain ⟨e', e3, rfl⟩ := Option.map_eq_some_iff.mp hc
    exact s_fld O.pk (O.id e0) (E.e X S _ a' O e1) (E.e X S _ e' O e3) (noName_ok (fun _ _ => by simp) _ _)
  · split at hc
    · rename_i hn
      obtain ⟨e', e3, rfl⟩ := Option.map_eq_some_iff.mp hc
      exact s_ex (E.e X S _ e' O e3) (notComp_ok hn _ _ _)
    · cases hc
  · obtain ⟨e', e3, rfl⟩ := Option.map_eq_some_iff.mp hc
    exact s_ret (E.e X S _ e' O e3)
  · obtain ⟨c', e0, hc⟩ := Option.bind_eq_some_iff.mp hc
    obtain ⟨a', e1, hc⟩ := Option.bind_eq_some_iff.mp hc
    obtain ⟨b', e2, rfl⟩ := Option.map_eq_some_iff.mp hc
    exact s_if (E.b X S _ c' O e0) (h.ss X S _ a' O e1) (h.ss X S _ b' O e2)
  · obtain ⟨t', e0, hc⟩ := Option.bind_eq_some_iff.mp hc
    obtain ⟨i', e1, hc⟩ := Option.bind_eq_some_iff.mp hc
    obtain ⟨b', e2, rfl⟩ := Option.map_eq_some_iff.mp hc
    obtain ⟨g1, g2⟩ := tn_ok O e0
    obtain ⟨s1, s2⟩ := E.i X S _ _ i' O e1
    exact s_for g2 O.passes O.calm s1 g1 (h.ss X S _ b' O e2) (s2 X.env)
  · obtain ⟨c', e0, hc⟩ := Option.bind_eq_some_iff.mp hc
    obtain ⟨b', e2, rfl⟩ := Option.map_eq_some_iff.mp hc
    exact s_while O.passes (E.b X S _ c' O e0) (h.ss X S _ b' O e2)
  · cases hc; exact s_break
  · cases hc; exact s_cont
  · cases hc; exact s_pass
  · cases hc; exact s_never
  · cases hc
theorem sndS : ∀ n, SndS P call k N n
  | 0 => ⟨fun _ _ _ _ _ h => by simp [cS] at h, fun _ _ _ _ _ h => by simp [cSs] at h⟩
  | n + 1 => ⟨fun _ _ _ _ O hc => snd_s (sndS n) O hc, fun _ _ _ _ O hc => snd_ss (sndS n) O hc⟩
end
end CS
end CSSound4_

section CSFn_
set_option maxRecDepth 100000
set_option maxHeartbeats 4000000
namespace CS
open PySem L2
/-! ### a call on a heap of its own -/
section
variable {B : Nm} {K : PySem.W.Frag} {m m' m'' : Mp} {H H' : Hp} {n n' : Nat}
/-- a promise of the body is one of the call apart -/
theorem spI_apart {G : Gs} {run : Nat → List PV → SH → R PV} {f np : Nat} {xs : List V} {Q : VK} {E : XK} (h : spI B K (CS.apart G run) f np xs H Q E) : spI B K run f np xs H Q E := by
  obtain ⟨m, s, vs, M, r, hl, kon⟩ := h
  unfold CS.apart at kon
  cases eF : G.fns[f]? with
  | none => rw [eF] at kon; exact (Kon.bad kon).elim
  | some F =>
    rw [eF] at kon
    dsimp only at kon
    by_cases hmu : F.mu = true
    · rw [if_pos hmu] at kon
      split at kon
      · rename_i n us
        split at kon
        · rename_i c hc
          by_cases hcp : c.pureB = true
          · rw [if_pos hcp] at kon
            cases ew : us.mapM (fzV s (fun i => decide (i ≠ n)) 16) with
            | none => rw [ew] at kon; exact (Kon.bad kon).elim
            | some ws =>
              rw [ew] at kon
              dsimp only at kon
              obtain ⟨y, ys, rfl, ⟨hn, rfl⟩, rus⟩ := r
              let T : Addr → Prop := fun a => PV.pureL us = false ∧ ∃ i vs, i < s.length ∧ i ≠ n ∧ a = m i ∧ H a = some (.lst vs)
              let mc : Mp := ⟨fun _ => m n, fun a => m.fz a ∨ T a, m.nb⟩
              have Mc : Match B K mc [c] H := by
                refine ⟨M.nb, fun i hi z => ?_, fun a z => ?_, fun i j hi hj _ => by simp at hi hj; omega, fun i d ed => ?_⟩
                · rcases z with z | ⟨_, i, vs, h1, h2, h3, z⟩
                  · exact M.nf n hn z
                  · exact h2 (M.inj n i hn h1 h3).symm
                · rcases z with z | ⟨_, i, vs, _, _, _, z⟩
                  · exact M.fx a z
                  · exact ⟨_, z⟩
                · cases i with
                  | succ i => simp at ed
                  | zero =>
                    simp at ed
                    subst ed
                    exact (M.cl n _ hc).lift (fun a z => .inl z) rfl hcp
              have D : Side B K m s H T mc [c] H 1 :=
                ⟨M, fun _ _ e => e, fun a ⟨_, i, vs, h1, _, h2, h3⟩ => ⟨i, vs, h1, h2, h3⟩, Mc, fun a h => h, fun a h => .inl h, fun a h => .inr h, Nat.le_refl _, fun k hk => ⟨n, hn, rfl⟩, fun k h1 h2 => by simp at h2; omega⟩
              have rws : RVs K mc 1 H ws ys := by
                by_cases hp : PV.pureL us = true
                · rw [fzL_pure hp] at ew
                  cases ew
                  exact D.inPL us _ hp rus
                · refine D.inL (fun v w x e r => D.inV (fun i vs hi hi' eH => ?_) 16 v w x e r) us ws _ ew rus
                  exact ⟨by simpa using hp, i, vs, hi', of_decide_eq_true hi, rfl, eH⟩
              refine ⟨mc, [c], .ref 0 :: ws, Mc, ⟨_, _, rfl, ⟨by simp, rfl⟩, rws⟩, by rw [← hl, List.length_cons, List.length_cons, mapM_len ew], ?_⟩
              cases er : run f (.ref 0 :: ws) [c] with
              | bad w => rw [er] at kon; exact (Kon.bad kon).elim
              | ok v s3 =>
                rw [er] at kon
                dsimp only at kon
                refine ⟨v, s3, rfl, fun m3 H3 x g rv => ?_⟩
                split at kon
                · rename_i c3 hc3
                  split at kon
                  · exact (Kon.bad kon).elim
                  · rename_i hnr
                    cases ex : c3.vals.mapM (fzV s3 (fun i => decide (1 ≤ i) && (F.fr || decide (v.refI ≠ some i))) 16) with
                    | none => rw [ex] at kon; exact (Kon.bad kon).elim
                    | some zs =>
                      rw [ex] at kon
                      dsimp only at kon
                      have e0 : m3 0 = m n := g.ag 0 (by simp)
                      have h03 : 0 < s3.length := (List.getElem?_eq_some_iff.mp hc3).1
                      refine D.ret g (by simp) (fun q a ⟨z, _⟩ => by rw [Bool.not_eq_false'] at q; rw [q] at z; cases z) (fun at4 n4 A hA i d ed => ?_) kon rv
                      by_cases hin : n = i
                      · subst hin
                        rw [List.getElem?_set_self hn] at ed
                        cases ed
                        obtain ⟨vs, rv3, mk⟩ := (g.mt.cl 0 _ hc3).vals
                        rw [e0] at mk
                        refine mk _ _ _ ?_
                        have hnr : (∀ a, ¬ T a) ∨ c3.vals.all (nrV s3 16) = true := by
                          by_cases hp : PV.pureL us = true
                          · exact .inl fun a ⟨z, _⟩ => by rw [hp] at z; cases z
                          · right
                            simp only [hp, Bool.not_false, Bool.true_and, Bool.not_eq_true', Bool.not_eq_false, Bool.not_eq_true] at hnr
                            exact hnr
                        refine D.mapL g A (fun v' w x e t r => D.back g A (fun i h1 h2 => ?_) 16 v' w x e t r) _ _ _ ex hnr rv3
                        simp only [Bool.and_eq_true, decide_eq_true_eq, Bool.or_eq_true] at h1
                        refine ⟨h1.1, fun k h3 h4 q => ?_⟩
                        obtain ⟨h5, j, rfl, h6⟩ := hA k h3 h4
                        rcases h1.2 with h7 | h7
                        · rw [h5] at h7; cases h7
                        · rw [h6] at q
                          have hj : j < s3.length := rv.1
                          have := g.mt.inj i j h2 hj q
                          subst this
                          exact h7 rfl
                      · rw [List.getElem?_set_ne hin] at ed
                        have hi : i < s.length := (List.getElem?_eq_some_iff.mp ed).1
                        refine (M.cl i d ed).le (D.le g A) (D.f7 g hi fun k hk q => hin ?_)
                        exact (M.inj i n hi hn q).symm
                · exact (Kon.bad kon).elim
          · rw [if_neg hcp] at kon; exact (Kon.bad kon).elim
        · exact (Kon.bad kon).elim
      · exact (Kon.bad kon).elim
    · rw [if_neg hmu] at kon
      cases ew : vs.mapM (fzV s (fun _ => true) 16) with
      | none => rw [ew] at kon; exact (Kon.bad kon).elim
      | some ws =>
        rw [ew] at kon
        dsimp only at kon
        let T : Addr → Prop := fun a => PV.pureL vs = false ∧ ∃ i vs, i < s.length ∧ a = m i ∧ H a = some (.lst vs)
        let mc : Mp := ⟨m.at_, fun a => m.fz a ∨ T a, m.nb⟩
        have Mc : Match B K mc [] H := by
          refine ⟨M.nb, fun i hi => by simp at hi, fun a z => ?_, fun i j hi => by simp at hi, fun i d ed => by simp at ed⟩
          rcases z with z | ⟨_, i, vs, _, _, z⟩
          · exact M.fx a z
          · exact ⟨_, z⟩
        have D : Side B K m s H T mc [] H 0 :=
          ⟨M, fun _ _ e => e, fun a ⟨_, i, vs, h1, h2, h3⟩ => ⟨i, vs, h1, h2, h3⟩, Mc, fun a h => h, fun a h => .inl h, fun a h => .inr h, Nat.le_refl _, fun k hk => by omega, fun k h1 h2 => by simp at h2⟩
        have rws : RVs K mc 0 H ws xs := by
          by_cases hp : PV.pureL vs = true
          · rw [fzL_pure hp] at ew
            cases ew
            exact D.inPL vs _ hp r
          · refine D.inL (fun v w x e r => D.inV (fun i vs _ hi' eH => ?_) 16 v w x e r) vs ws _ ew r
            exact ⟨by simpa using hp, i, vs, hi', rfl, eH⟩
        refine ⟨mc, [], ws, Mc, rws, by rw [← hl, mapM_len ew], ?_⟩
        cases er : run f ws [] with
        | bad w => rw [er] at kon; exact (Kon.bad kon).elim
        | ok v s3 =>
          rw [er] at kon
          dsimp only at kon
          refine ⟨v, s3, rfl, fun m3 H3 x g rv => ?_⟩
          refine D.ret g rfl (fun q a ⟨z, _⟩ => by rw [Bool.not_eq_false'] at q; rw [q] at z; cases z) (fun at4 n4 A hA i d ed => ?_) kon rv
          have hi : i < s.length := (List.getElem?_eq_some_iff.mp ed).1
          exact (M.cl i d ed).le (D.le g A) (D.f7 g hi fun k hk => by omega)
end
/-! ### a def -/
section
variable {P : Pk} {prog : Program} {w : World} {K : PySem.W.Frag} {mg : Str → Option Value} {base : Heap} {call : Nat → List PV → SH → R PV} {k : Nat}
/-- what is known of one def -/
structure DefOk (P : Pk) (K : PySem.W.Frag) (f : Nat) (F : FnI) (N : List Str) (n : Nat) : Prop where
  ex : ∃ x qual params body scope dvs kws, FunD K x qual params body scope dvs kws (P.fa f) (P.fd f) ∧ FnScope N (P.ps f) scope ∧ cSs P.C N n ⟨scope, fun _ => true, F.fr, F.ml⟩ body = some F.body
  np : F.np = (P.ps f).length
  ns : F.ns = N.length
theorem start_ok {B : Nm} {m : Mp} {s : SH} {H : Hp} {vs : List PV} {xs : List V} {N : List Str} {np ns : Nat} (M : Match B K m s H) (r : RVs K m s.length H vs xs) (hl : vs.length = np) (hn : ns = N.length) : StOk B K m s H (vs.map some ++ List.replicate (ns - np) none) (L2.start N xs) := by
  refine ⟨M, ?_, fun i v e => ?_⟩
  · unfold L2.start
    simp only [List.length_append, List.length_map, List.length_replicate]
    rw [r.length, hl, hn]
  · unfold L2.start
    by_cases hi : i < vs.length
    · rw [List.getElem?_append_left (by simpa using hi), List.getElem?_map] at e
      obtain ⟨v', e1, e2⟩ := Option.map_eq_some_iff.mp e
      cases e2
      obtain ⟨x, e3, rx⟩ := r.get e1
      refine ⟨x, ?_, rx⟩
      rw [List.getElem?_append_left (by simp [r.length]; exact hi), List.getElem?_map, e3]; rfl
    · rw [List.getElem?_append_right (by simpa using hi), List.getElem?_replicate] at e
      split at e <;> cases e
theorem def_step {f : Nat} {F : FnI} {N : List Str} {n : Nat} (pk : PkOk P K mg) (kit : KitOk P.B K) (dk : DicOk P K w mg) (CO : CallOk P prog w K mg base k call) (hF : P.G.fns[f]? = some F) (D : DefOk P K f F N n) :
    FnOk prog w K mg base CX0 (k + 2) (P.fa f) (P.fd f) (P.ps f) (spI P.B K (CS.apart P.G (runF P.G call)) f F.np) := by
  obtain ⟨x, qual, params, body, scope, dvs, kws, FD, SC, hb⟩ := D.ex
  refine FnOk.imp (sp := spI P.B K (runF P.G call) f F.np) ?_ fun vs H Q E h => spI_apart h
  refine FD.ok SC (fun vs H Q E ⟨m, s, ws, M, r, hl, kon⟩ => by rw [r.length, hl, D.np]) fun cdv A outer s0 H vs Q E hr hsp => ?_
  obtain ⟨m, s, ws, M, r, hl, kon⟩ := hsp
  have O : XOk P call k N (cxOf CX0 prog w K mg base N qual scope (P.fa f) cdv A outer s0 H E) ⟨scope, fun _ => true, F.fr, F.ml⟩ :=
    ⟨pk, kit, dk, CO, hr, passes_of rfl, rfl, rfl, SC.nd, rfl, SC.kind, fun _ _ => rfl⟩
  refine ⟨_, (sndS n).ss _ _ _ _ O hb, m, s, ws.map some ++ List.replicate (F.ns - F.np) none, start_ok M r hl D.ns, ?_⟩
  unfold runF at kon
  simp only [hF, bindA, hl, if_true] at kon
  cases e : exs P.G call F.body (ws.map some ++ List.replicate (F.ns - F.np) none) s with
  | next σ' s' =>
    rw [e] at kon
    obtain ⟨v, s2, e2, k2⟩ := kon
    cases e2
    exact fun m' H' τ' g st => k2 m' H' .non g rfl
  | ret v s' =>
    rw [e] at kon
    obtain ⟨v, s2, e2, k2⟩ := kon
    cases e2
    exact fun m' H' x g rv => k2 m' H' x g rv
  | brk σ' s' => rw [e] at kon; exact (Kon.bad kon).elim
  | cont σ' s' => rw [e] at kon; exact (Kon.bad kon).elim
  | bad w => rw [e] at kon; exact (Kon.bad kon).elim
/-- all defs of a text, by fuel -/
theorem callF_ok {Ns : Nat → List Str} {n : Nat} (pk : PkOk P K mg) (kit : KitOk P.B K) (dk : DicOk P K w mg) (hD : ∀ f F, P.G.fns[f]? = some F → DefOk P K f F (Ns f) n) : ∀ d, CallOk P prog w K mg base (2 * d) (callF P.G d)
  | 0 => fun f F hF => ⟨fun vs H Q E ⟨m, s, ws, M, r, hl, kon⟩ => by rw [r.length, hl, (hD f F hF).np], fun A outer s H args us vs Q E hr e0 hb rv hsp => by
      obtain ⟨m, s, ws, M, r, hl, kon⟩ := hsp
      exact (Kon.bad kon).elim⟩
  | d + 1 => fun f F hF => def_step pk kit dk (callF_ok pk kit dk hD d) hF (hD f F hF)
end
end CS
end CSFn_

section CSHead_
set_option maxRecDepth 100000
set_option maxHeartbeats 4000000
namespace CS
open PySem L2

/-- a text's tables -/
structure Tab where
  C : Cc
  G : Gs
  cn : List Str
  defs : List He5.DefA
  ps : List (List Str)
  Ns : List (List Str)
def Tab.ca (T : Tab) (K : PySem.W.Frag) (c : Nat) : Addr := He.ga K (T.cn.getD c Str.empty)
def Tab.B (T : Tab) (K : PySem.W.Frag) : Nm := ⟨T.ca K, T.C.nm, T.cn.length, fun c => match T.G.cls[c]? with | some Cl => Cl.flds | none => []⟩
def Tab.fa (T : Tab) (K : PySem.W.Frag) (f : Nat) : Addr := match T.defs[f]? with | some d => d.at_ K | none => 0
def Tab.pa (T : Tab) (K : PySem.W.Frag) (c m : Nat) : Addr := He.ma K (T.ca K c) (T.C.nm.getD m Str.empty)
def Tab.pk (T : Tab) (K : PySem.W.Frag) (fd : Nat → FuncData) : Pk := ⟨T.G, T.C, T.B K, T.fa K, fd, fun f => T.ps.getD f [], T.pa K, T.C.bs⟩
/-- a property's getter -/
def getAt (x m : Str) (K : PySem.W.Frag) : Addr := match PySem.W.recIn K (He.ma K (He.ga K x) m) "property" with
  | some (.ref g :: _) => g
  | _ => 0
/-- a static method's def -/
def smAt (x m : Str) (K : PySem.W.Frag) : Addr := match PySem.W.recIn K (He.ma K (He.ga K x) m) "staticmethod" with
  | some (.ref g :: _) => g
  | _ => 0
section
variable (T : Tab) (K : PySem.W.Frag)
def chkCo (q : Str × PV) : Bool := match PySem.W.nsIn K mainGlobals q.1, q.2 with
  | some (some (.int j _)), .int i => decide (j = i)
  | some (some (.str y _)), .str z => decide (y = z)
  | _, _ => false
def chkRec (p g : Addr) : Bool := match PySem.W.recIn K p "property" with
  | some (.ref a :: _) => decide (a = g)
  | _ => false
def chkCls (C : Addr) : Bool := PySem.W.plainGet K C Str.empty && (PySem.W.hasDictIn K C && (PySem.W.plainOver K C && He.eqO (PySem.W.findIn K (.ref C) "__setattr__") (some (some (.builtin "object.__setattr__")))))
def chkMk (C g : Addr) : Bool := PySem.W.makesIn K C && (He.eqO (PySem.W.findIn K (.ref C) "__init__") (some (some (.ref g))) && (PySem.W.isFn K (.ref g) && PySem.W.keepIn K (.ref C)))
def chkMeth (c : Nat) (q : Nat × Nat) : Bool := decide (q.1 < T.C.nm.length) && (He.eqO (PySem.W.findIn K (.ref (T.ca K c)) (nmOf (T.B K) q.1)) (some (some (.ref (T.fa K q.2)))) && (PySem.W.isFn K (.ref (T.fa K q.2)) && (PySem.W.keepIn K (.ref (T.fa K q.2)) && PySem.W.fnIn K (T.fa K q.2))))
def chkProp (c : Nat) (q : Nat × Nat) : Bool := (match T.G.fns[q.2]? with | some F => decide (F.np = 1) | none => false) && (T.C.bs.contains (q.2, 1, [], []) &&
  (He.eqO (PySem.W.findIn K (.ref (T.ca K c)) (nmOf (T.B K) q.1)) (some (some (.ref (T.pa K c q.1)))) && (He.eqO (PySem.W.specialIn K (.ref (T.pa K c q.1)) "__get__") (some (some (.builtin "property.__get__"))) &&
    (decide (PySem.W.takesIn K (.ref (T.pa K c q.1)) = some true) && chkRec K (T.pa K c q.1) (T.fa K q.2)))))
def chkFld (c f : Nat) : Bool := decide (f < T.C.nm.length) && He.eqO (PySem.W.findIn K (.ref (T.ca K c)) (nmOf (T.B K) f)) (some none)
def chkNe (C : Addr) : Bool := He.eqO (PySem.W.findIn K (.ref C) "__ne__") (some (some (.builtin "object.__ne__"))) && decide (PySem.W.mroIn K C (.type "object") = some true)
def chkCl (c : Nat) : Bool := match T.G.cls[c]? with
  | some Cl => chkCls K (T.ca K c) && (chkMk K (T.ca K c) (T.fa K Cl.init) && (Cl.meths.all (chkMeth T K c) && (Cl.props.all (chkProp T K c) && (Cl.flds.all (chkFld T K c) && chkNe K (T.ca K c)))))
  | none => true
def chkKit (c : Nat) : Bool := He.eqO (PySem.W.findIn K (.ref (T.ca K c)) "__class__") (some (some (.builtin "object.__class__"))) && (decide (PySem.W.mroIn K (T.ca K c) (.type "object") = some true) &&
  ((List.range T.cn.length).all (fun d => decide (PySem.W.kitOne K (.ref (T.ca K c)) (.ref (T.ca K d)) = some (decide (c = d)))) && ((["int", "bool", "str", "list", "tuple"] : List String).all (fun t => decide (PySem.W.kitOne K (.ref (T.ca K c)) (.type t) = some false)) &&
    (["NoneType", "bool", "int", "str", "list", "tuple"] : List String).all (fun t => decide (PySem.W.kitOne K (.type t) (.ref (T.ca K c)) = some false)))))
def chkDv : PV → He.Dv → Bool
  | .non, .non => true
  | .bl b, .bl c => decide (b = c)
  | .int i, .int j => decide (i = j)
  | .str x, .str y => decide (x = y)
  | .tup [], .adr p => (match K.lookup (p K) with
    | some ⟨.type t, _, .seq its _, _⟩ => decide (t = "tuple") && its.isEmpty
    | _ => false)
  | _, _ => false
def chkDvs : List PV → List He.Dv → Bool
  | [], [] => true
  | v :: vs, d :: ds => chkDv K v d && chkDvs vs ds
  | _, _ => false
def chkDf (f : Nat) : Bool := match T.G.fns[f]?, T.defs[f]? with
  | some F, some d => chkDvs K F.df d.dfl
  | _, _ => true
def chkKv (d : Addr) (q : Str × PV) : Bool := match PySem.W.nsIn K d q.1, q.2 with
  | some (some (.int j _)), .int i => decide (j = i)
  | some (some (.str y _)), .str z => decide (y = z)
  | _, _ => false
def chkDic (t : Str × List (Str × PV)) : Bool := He.eqO (PySem.W.nsIn K mainGlobals t.1) (some (some (.ref (He.ga K t.1)))) && t.2.all (chkKv K (He.ga K t.1))
def chkRecS (p g : Addr) : Bool := match PySem.W.recIn K p "staticmethod" with
  | some (.ref a :: _) => decide (a = g)
  | _ => false
def chkGetS (C g : Addr) (o : Option PySem.W.CFound) : Bool := match o with
  | some (.get (.builtin i) (.ref p) .none (.ref D)) => decide (i = "staticmethod.__get__") && (decide (D = C) && chkRecS K p g)
  | _ => false
def chkSm (q : (Str × Str) × Nat) : Bool := He.eqO (PySem.W.nsIn K mainGlobals q.1.1) (some (some (.ref (He.ga K q.1.1)))) && (PySem.W.readsIn K (He.ga K q.1.1) (.type "type") &&
  (chkGetS K (He.ga K q.1.1) (T.fa K q.2) (PySem.W.findCls K (.ref (He.ga K q.1.1)) (.type "type") q.1.2) && (He.eqO (PySem.W.specialIn K (.ref (He.ga K q.1.1)) "__getattribute__") (some (some (.builtin "type.__getattribute__"))) && PySem.W.keepIn K (.ref (T.fa K q.2)))))
def bops : List (Operator × BinO) := [(.BitOr, .bor), (.BitAnd, .band), (.Sub, .sub), (.RShift, .shr), (.LShift, .shl), (.Mult, .mul)]
def chkRef (o : Option (Option Value)) : Bool := match o with
  | some none => true
  | some (some (.ref _)) => true
  | _ => false
def chkNoOp (D : Addr) (nm : String) : Bool := (match PySem.W.clsIn K D with | some cd => cd.mro == [.ref D, .type "object"] | none => false) && (He.eqO (PySem.W.findIn K (.ref D) (PySem.dunder nm)) (some none) && (He.eqO (PySem.W.findIn K (.ref D) (dunderR nm)) (some none) &&
  (He.eqO (PySem.W.findIn K (.type "object") (PySem.dunder nm)) (some none) && He.eqO (PySem.W.findIn K (.type "object") (dunderR nm)) (some none))))
def chkOth (c : Nat) (op : Operator) (o : BinO) : Bool := (List.range T.G.cls.length).all fun d => match T.G.cls[d]? with
  | some Dl => (match (binId o).bind (fun i => Dl.meths.lookup i) with
    | none => decide (T.ca K c ≠ T.ca K d) && chkNoOp K (T.ca K d) op.info.2
    | some _ => true)
  | none => true
def chkGL (c : Nat) : Bool := match T.G.cls[c]? with
  | some Cl => (match Cl.meths.lookup 9 with
      | some f => He.eqO (PySem.W.findIn K (.ref (T.ca K c)) "__getitem__") (some (some (.ref (T.fa K f)))) && (PySem.W.fnIn K (T.fa K f) && (PySem.W.isFn K (.ref (T.fa K f)) && ((match T.G.fns[f]? with | some F => decide (F.np = 2) | none => false) && T.C.bs.contains (f, 2, [], []))))
      | none => true) && (match Cl.meths.lookup 8 with
      | some f => He.eqO (PySem.W.findIn K (.ref (T.ca K c)) "__len__") (some (some (.ref (T.fa K f)))) && (PySem.W.isFn K (.ref (T.fa K f)) && ((match T.G.fns[f]? with | some F => decide (F.np = 1) | none => false) && T.C.bs.contains (f, 1, [], [])))
      | none => true)
  | none => true
def chkBop1 (c f : Nat) (op : Operator) : Bool := He.eqO (PySem.W.findIn K (.ref (T.ca K c)) (PySem.dunder op.info.2)) (some (some (.ref (T.fa K f)))) && (PySem.W.isFn K (.ref (T.fa K f)) && (PySem.W.selfFirst K (T.ca K c) &&
  (chkRef (PySem.W.findIn K (.ref (T.ca K c)) (dunderR op.info.2)) && ((PySem.W.findIn K (.type "int") (PySem.dunder op.info.2)).isSome && ((PySem.W.findIn K (.type "int") (dunderR op.info.2)).isSome &&
    (decide (PySem.W.subIn K (.type "int") (.ref (T.ca K c)) = some false) && ((match T.G.fns[f]? with | some F => decide (F.np = 2) | none => false) && T.C.bs.contains (f, 2, [], []))))))))
def chkBop (c : Nat) : Bool := match T.G.cls[c]? with
  | some Cl => bops.all fun q => (match (binId q.2).bind (fun i => Cl.meths.lookup i) with
    | some f => chkBop1 T K c f q.1 && chkOth T K c q.1 q.2
    | none => true)
  | none => true
def chkOps (c : Nat) : Bool := chkBop T K c && chkGL T K c
def msB (T : Tab) : Bool := T.C.ms.all fun q => T.G.cls.all fun Cl => match Cl.meths.lookup q.1 with
  | some f => q.2.contains f
  | none => true
/-- all that is looked at -/
def chk : Bool := T.C.bis.all (fun x => He.eqO (PySem.W.nsIn K mainGlobals x) (some none)) && (T.C.fns.all (fun q => He.eqO (PySem.W.nsIn K mainGlobals q.1) (some (some (.ref (T.fa K q.2.1)))) && PySem.W.keepIn K (.ref (T.fa K q.2.1))) &&
  (T.C.cls.all (fun q => He.eqO (PySem.W.nsIn K mainGlobals q.1) (some (some (.ref (T.ca K q.2.1)))) && (match T.G.cls[q.2.1]? with | some Cl => decide (Cl.init = q.2.2.1) | none => false)) &&
    (T.C.consts.all (chkCo K) && ((List.range T.G.cls.length).all (chkCl T K) && ((List.range T.cn.length).all (chkKit T K) && ((List.range T.G.fns.length).all (chkDf T K) &&
      (He.eqO (PySem.W.specialIn K (.builtin "object.__class__") "__get__") (some (some (.builtin "getset_descriptor.__get__"))) && (decide (PySem.W.takesIn K (.builtin "object.__class__") = some true) && ((List.range T.G.cls.length).all (chkOps T K) && (T.C.ds.all (chkDic K) && T.C.sm.all (chkSm T K)))))))))))
end
end CS
namespace CS
open PySem L2
/-! ### what the checks tell -/
theorem lookup_mem {α : Type} : ∀ {l : List (Str × α)} {x : Str} {a : α}, l.lookup x = some a → (x, a) ∈ l
  | [], _, _, h => by cases h
  | (y, b) :: r, x, a, h => by
    rw [List.lookup_cons] at h
    cases e : x == y with
    | true =>
      rw [e] at h
      cases h
      rw [eq_of_beq e]
      exact List.mem_cons_self
    | false => rw [e] at h; exact List.mem_cons_of_mem _ (lookup_mem h)
theorem lookup_memN {α : Type} : ∀ {l : List (Nat × α)} {x : Nat} {a : α}, l.lookup x = some a → (x, a) ∈ l
  | [], _, _, h => by cases h
  | (y, b) :: r, x, a, h => by
    rw [List.lookup_cons] at h
    cases e : x == y with
    | true =>
      rw [e] at h
      cases h
      rw [eq_of_beq e]
      exact List.mem_cons_self
    | false => rw [e] at h; exact List.mem_cons_of_mem _ (lookup_memN h)
theorem lookup_memP {α : Type} : ∀ {l : List ((Str × Str) × α)} {x : Str × Str} {a : α}, l.lookup x = some a → (x, a) ∈ l
  | [], _, _, h => by cases h
  | (y, b) :: r, x, a, h => by
    rw [List.lookup_cons] at h
    cases e : x == y with
    | true =>
      rw [e] at h
      cases h
      rw [eq_of_beq e]
      exact List.mem_cons_self
    | false => rw [e] at h; exact List.mem_cons_of_mem _ (lookup_memP h)
/-- what is the same for every run -/
structure TabOk (T : Tab) : Prop where
  nd : T.C.nm.Nodup
  d0 : T.C.nm.getD 0 Str.empty = "__eq__"
  nc : T.cn.length = T.G.cls.length
  ms : msB T = true
  np : ∀ (f : Nat) (F : FnI), T.G.fns[f]? = some F → (T.ps.getD f []).length = F.np
  ns : ∀ (f : Nat) (F : FnI), T.G.fns[f]? = some F → F.ns = (T.Ns.getD f []).length
  eqb : ∀ (c : Nat) (Cl : ClI) (f : Nat), T.G.cls[c]? = some Cl → Cl.meths.lookup 0 = some f → ∃ F, T.G.fns[f]? = some F ∧ F.np = 2 ∧ (f, 2, [], []) ∈ T.C.bs
  len : ∀ (f : Nat) (F : FnI), T.G.fns[f]? = some F → ∃ d : He5.DefA, T.defs[f]? = some d
  sc : ∀ (f : Nat) (d : He5.DefA), T.defs[f]? = some d → FnScope (T.Ns.getD f []) (T.ps.getD f []) d.scope
  body : ∀ (f : Nat) (F : FnI) (d : He5.DefA), T.G.fns[f]? = some F → T.defs[f]? = some d → cSs T.C (T.Ns.getD f []) 200 ⟨d.scope, fun _ => true, F.fr, F.ml⟩ d.body = some F.body
section
variable {T : Tab} {K : PySem.W.Frag} {h : Heap} {mg : Str → Option Value} {fd : Nat → FuncData}
theorem ba {a b : Bool} (h : (a && b) = true) : a = true ∧ b = true := Bool.and_eq_true_iff.mp h
theorem cl_ok {c : Nat} {Cl : ClI} (e : T.G.cls[c]? = some Cl) (h : chkCl T K c = true) : ClOk (T.pk K fd) K c Cl := by
  unfold chkCl at h
  rw [e] at h
  obtain ⟨h1, h⟩ := ba h
  obtain ⟨h2, h⟩ := ba h
  obtain ⟨h3, h⟩ := ba h
  obtain ⟨h4, h⟩ := ba h
  obtain ⟨h5, h6⟩ := ba h
  obtain ⟨n1, n2⟩ := ba h6
  obtain ⟨a1, h1⟩ := ba h1
  obtain ⟨a2, h1⟩ := ba h1
  obtain ⟨a3, a4⟩ := ba h1
  obtain ⟨b1, h2⟩ := ba h2
  obtain ⟨b2, h2⟩ := ba h2
  obtain ⟨b3, b4⟩ := ba h2
  refine ⟨⟨a1, a2, a3, He.eqO_ok a4⟩, ⟨b1, He.eqO_ok b2, b3, b4⟩, fun m f hm => ?_, fun m f hm => ?_, fun m f hm => ?_, fun f hf => ?_, He.eqO_ok n1, of_decide_eq_true n2⟩
  · have q := List.all_eq_true.mp h3 _ (lookup_memN hm)
    obtain ⟨q1, q⟩ := ba q
    obtain ⟨q2, q⟩ := ba q
    obtain ⟨q3, q⟩ := ba q
    obtain ⟨q4, q5⟩ := ba q
    exact ⟨of_decide_eq_true q1, He.eqO_ok q2, q3, q4⟩
  · have q := List.all_eq_true.mp h3 _ (lookup_memN hm)
    obtain ⟨q1, q⟩ := ba q
    obtain ⟨q2, q⟩ := ba q
    obtain ⟨q3, q⟩ := ba q
    exact (ba q).2
  · have q := List.all_eq_true.mp h4 _ (lookup_memN hm)
    obtain ⟨q1, q⟩ := ba q
    obtain ⟨q2, q⟩ := ba q
    obtain ⟨q3, q⟩ := ba q
    obtain ⟨q4, q⟩ := ba q
    obtain ⟨q5, q6⟩ := ba q
    cases eF : T.G.fns[f]? with
    | none => rw [eF] at q1; cases q1
    | some F =>
      rw [eF] at q1
      refine ⟨F, eF, of_decide_eq_true q1, List.contains_iff_mem.mp q2, He.eqO_ok q3, He.eqO_ok q4, of_decide_eq_true q5, ?_⟩
      unfold chkRec at q6
      split at q6
      · rename_i a rest hr
        have := of_decide_eq_true q6
        subst this
        exact ⟨rest, hr⟩
      · cases q6
  · have q := List.all_eq_true.mp h5 _ (List.contains_iff_mem.mp hf)
    obtain ⟨q1, q2⟩ := ba q
    exact ⟨of_decide_eq_true q1, He.eqO_ok q2⟩
theorem pk_ok (X : K.In h) (G : h.Ns mainGlobals mg) (O : TabOk T) (hc : chk T K = true) (hb : ∀ f n ks perm, (f, n, ks, perm) ∈ T.C.bs → BindOk (T.pk K fd) K f n ks perm) : PkOk (T.pk K fd) K mg ∧ KitOk (T.B K) K := by
  unfold chk at hc
  obtain ⟨c1, hc⟩ := ba hc
  obtain ⟨c2, hc⟩ := ba hc
  obtain ⟨c3, hc⟩ := ba hc
  obtain ⟨c4, hc⟩ := ba hc
  obtain ⟨c5, hc⟩ := ba hc
  obtain ⟨c6, hc⟩ := ba hc
  obtain ⟨c7, hc⟩ := ba hc
  obtain ⟨c8, hc⟩ := ba hc
  obtain ⟨c9, hc⟩ := ba hc
  obtain ⟨c10, hc⟩ := ba hc
  obtain ⟨c11, c12⟩ := ba hc
  have cls : ∀ c Cl, T.G.cls[c]? = some Cl → ClOk (T.pk K fd) K c Cl := fun c Cl e => cl_ok e (List.all_eq_true.mp c5 c (List.mem_range.mpr (List.getElem?_eq_some_iff.mp e).1))
  refine ⟨⟨rfl, O.nd, O.d0, O.np, O.eqb, O.nc, fun c Cl e => by show (match T.G.cls[c]? with | some Cl => Cl.flds | none => []) = _; rw [show T.G.cls[c]? = some Cl from e], fun x hx => ?_, fun x f ps e => ?_, fun x c f ps e => ?_, fun q hq => List.contains_iff_mem.mp hq, fun x v e => ?_, cls, hb, fun c Cl op o f hC ho hl => ?_, fun m fs c Cl f h1 h2 h3 => ?_, fun x m f e => ?_, fun c Cl f hC hl => ?_, fun c Cl f hC hl => ?_⟩, ?_⟩
  · exact PySem.W.mg_none_of X G (He.eqO_ok (List.all_eq_true.mp c1 x (List.contains_iff_mem.mp hx)))
  · obtain ⟨q1, q2⟩ := ba (List.all_eq_true.mp c2 _ (lookup_mem e))
    exact ⟨PySem.W.mg_of X G (He.eqO_ok q1), q2⟩
  · obtain ⟨q1, q2⟩ := ba (List.all_eq_true.mp c3 _ (lookup_mem e))
    refine ⟨PySem.W.mg_of X G (He.eqO_ok q1), ?_⟩
    dsimp only at q2
    cases eC : T.G.cls[c]? with
    | none => rw [eC] at q2; cases q2
    | some Cl => rw [eC] at q2; exact ⟨Cl, eC, of_decide_eq_true q2⟩
  · have q := List.all_eq_true.mp c4 _ (lookup_mem e)
    unfold chkCo at q
    split at q
    · rename_i j t i e1 e2
      have q := of_decide_eq_true q
      dsimp only at e1 e2
      subst e2
      rw [q] at e1
      exact ⟨.int i, _, PySem.W.mg_of X G e1, ⟨t, rfl⟩, fun _ _ _ => rfl⟩
    · rename_i y t z e1 e2
      have q := of_decide_eq_true q
      dsimp only at e1 e2
      subst e2
      rw [q] at e1
      exact ⟨.str z, _, PySem.W.mg_of X G e1, ⟨t, rfl⟩, fun _ _ _ => rfl⟩
    · cases q
  · have q := (ba (List.all_eq_true.mp c10 c (List.mem_range.mpr (List.getElem?_eq_some_iff.mp (show T.G.cls[c]? = some Cl from hC)).1))).1
    unfold chkBop at q
    rw [show T.G.cls[c]? = some Cl from hC] at q
    have mem : (op, o) ∈ bops := by
      cases op <;> cases ho <;> first | (simp [bops]; done) | (simp [binId] at hl)
    have q := List.all_eq_true.mp q _ mem
    simp only [hl] at q
    obtain ⟨q, qo⟩ := ba q
    obtain ⟨q1, q⟩ := ba q
    obtain ⟨q2, q⟩ := ba q
    obtain ⟨q3, q⟩ := ba q
    obtain ⟨q4, q⟩ := ba q
    obtain ⟨q5, q⟩ := ba q
    obtain ⟨q6, q⟩ := ba q
    obtain ⟨q7, q⟩ := ba q
    obtain ⟨q8, q9⟩ := ba q
    refine ⟨He.eqO_ok q1, q2, q3, ?_, ?_, of_decide_eq_true q7, ?_, fun d Dl o' hD ho' hno => ?_⟩
    · unfold chkRef at q4
      split at q4
      · rename_i e; exact ⟨none, e, .inl rfl⟩
      · rename_i g e; exact ⟨_, e, .inr ⟨g, rfl⟩⟩
      · cases q4
    · obtain ⟨fo, e1⟩ := Option.isSome_iff_exists.mp q5
      obtain ⟨ro, e2⟩ := Option.isSome_iff_exists.mp q6
      exact ⟨fo, ro, e1, e2⟩
    · cases eF : T.G.fns[f]? with
      | none => rw [eF] at q8; cases q8
      | some F => rw [eF] at q8; exact ⟨F, eF, of_decide_eq_true q8, List.contains_iff_mem.mp q9⟩
    · rw [ho] at ho'
      cases ho'
      have w := List.all_eq_true.mp qo d (List.mem_range.mpr (List.getElem?_eq_some_iff.mp (show T.G.cls[d]? = some Dl from hD)).1)
      rw [show T.G.cls[d]? = some Dl from hD] at w
      simp only [hno] at w
      obtain ⟨w1, w⟩ := ba w
      unfold chkNoOp at w
      obtain ⟨w2, w⟩ := ba w
      obtain ⟨w3, w⟩ := ba w
      obtain ⟨w4, w⟩ := ba w
      obtain ⟨w5, w6⟩ := ba w
      refine ⟨of_decide_eq_true w1, ?_, He.eqO_ok w3, He.eqO_ok w4, He.eqO_ok w5, He.eqO_ok w6⟩
      cases ec : PySem.W.clsIn K (T.ca K d) with
      | none => rw [ec] at w2; cases w2
      | some cd => rw [ec] at w2; exact ⟨cd, ec, eq_of_beq w2⟩
  · have q := O.ms
    unfold msB at q
    have q := List.all_eq_true.mp q _ (lookup_memN h1)
    have q := List.all_eq_true.mp q Cl (List.mem_of_getElem? (show T.G.cls[c]? = some Cl from h2))
    simp only [h3] at q
    exact List.contains_iff_mem.mp q
  · have q := List.all_eq_true.mp c12 _ (lookup_memP e)
    obtain ⟨q1, q⟩ := ba q
    obtain ⟨q2, q⟩ := ba q
    obtain ⟨q3, q⟩ := ba q
    obtain ⟨q4, q5⟩ := ba q
    dsimp only at q1 q2 q3 q4 q5
    refine ⟨He.ga K x, PySem.W.mg_of X G (He.eqO_ok q1), ⟨?_, He.eqO_ok q4, q5⟩⟩
    unfold chkGetS at q3
    split at q3
    · rename_i i p D hf
      obtain ⟨r1, r⟩ := ba q3
      obtain ⟨r2, r3⟩ := ba r
      have r1 := of_decide_eq_true r1
      have r2 := of_decide_eq_true r2
      subst r1
      subst r2
      unfold chkRecS at r3
      split at r3
      · rename_i a rest hr
        have r3 := of_decide_eq_true r3
        subst r3
        exact ⟨.type "type", p, rest, q2, hf, hr⟩
      · cases r3
    · cases q3
  · have q := (ba (List.all_eq_true.mp c10 c (List.mem_range.mpr (List.getElem?_eq_some_iff.mp (show T.G.cls[c]? = some Cl from hC)).1))).2
    unfold chkGL at q
    rw [show T.G.cls[c]? = some Cl from hC] at q
    simp only [hl] at q
    obtain ⟨q, _⟩ := ba q
    obtain ⟨q1, q⟩ := ba q
    obtain ⟨q2, q⟩ := ba q
    obtain ⟨q3, q⟩ := ba q
    obtain ⟨q4, q5⟩ := ba q
    refine ⟨He.eqO_ok q1, q2, q3, ?_⟩
    cases eF : T.G.fns[f]? with
    | none => rw [eF] at q4; cases q4
    | some F => rw [eF] at q4; exact ⟨F, eF, of_decide_eq_true q4, List.contains_iff_mem.mp q5⟩
  · have q := (ba (List.all_eq_true.mp c10 c (List.mem_range.mpr (List.getElem?_eq_some_iff.mp (show T.G.cls[c]? = some Cl from hC)).1))).2
    unfold chkGL at q
    rw [show T.G.cls[c]? = some Cl from hC] at q
    simp only [hl] at q
    obtain ⟨_, q⟩ := ba q
    obtain ⟨q1, q⟩ := ba q
    obtain ⟨q2, q⟩ := ba q
    obtain ⟨q4, q5⟩ := ba q
    refine ⟨He.eqO_ok q1, q2, ?_⟩
    cases eF : T.G.fns[f]? with
    | none => rw [eF] at q4; cases q4
    | some F => rw [eF] at q4; exact ⟨F, eF, of_decide_eq_true q4, List.contains_iff_mem.mp q5⟩
  · have kit := fun c (hc : c < T.cn.length) => List.all_eq_true.mp c6 c (List.mem_range.mpr hc)
    refine ⟨fun c hc => ?_, ⟨He.eqO_ok c8, of_decide_eq_true c9⟩, fun c d hc hd => ?_, fun c hc t ht => ?_, fun c hc t ht => ?_⟩
    · have q := kit c hc
      obtain ⟨q1, q⟩ := ba q
      obtain ⟨q2, q⟩ := ba q
      have hC : ∃ Cl, T.G.cls[c]? = some Cl := ⟨_, List.getElem?_eq_getElem (by rw [← O.nc]; exact hc)⟩
      obtain ⟨Cl, eC⟩ := hC
      exact ⟨(cls c Cl eC).cl, He.eqO_ok q1, of_decide_eq_true q2⟩
    · have q := kit c hc
      obtain ⟨q1, q⟩ := ba q
      obtain ⟨q2, q⟩ := ba q
      obtain ⟨q3, q⟩ := ba q
      exact of_decide_eq_true (List.all_eq_true.mp q3 d (List.mem_range.mpr hd))
    · have q := kit c hc
      obtain ⟨q1, q⟩ := ba q
      obtain ⟨q2, q⟩ := ba q
      obtain ⟨q3, q⟩ := ba q
      obtain ⟨q4, q5⟩ := ba q
      exact of_decide_eq_true (List.all_eq_true.mp q4 t ht)
    · have q := kit c hc
      obtain ⟨q1, q⟩ := ba q
      obtain ⟨q2, q⟩ := ba q
      obtain ⟨q3, q⟩ := ba q
      obtain ⟨q4, q5⟩ := ba q
      exact of_decide_eq_true (List.all_eq_true.mp q5 t ht)
end
end CS
end CSHead_

section CSHead2_
set_option maxRecDepth 100000
set_option maxHeartbeats 4000000
namespace CS
open PySem L2
/-! ### the Hook -/
def obsC (T : Tab) (K : PySem.W.Frag) : He.AlT := ((chk T K && T.defs.all fun d => d.ok K, T.defs.map fun d => He5.fnA K (d.at_ K)), T.C.ds.map fun t => He.dicW K (He.ga K t.1))
def valC (T : Tab) (w : World) : He.AlT := ((true, T.defs.map He5.DefA.val), T.C.ds.map fun t => some (He.keysIn w.params (t.2.map (·.1))))
def SaysC (T : Tab) (w : World) (K : PySem.W.Frag) : Prop := obsC T K = valC T w
/-- ads: the places that are looked at -/
def obsCG (ads : List Addr) (T : Tab) (g : Addr → Option Obj) : He.AlT := obsC T (He.frG g ads)
def hookC (ads : List Addr) (T : Tab) : PySem.W.Hook where
  α := He.AlT
  obs := fun s => obsCG ads T s.heap.get?
  val := fun w => valC T w
  says := fun w h => ∃ K : PySem.W.Frag, K.In h ∧ SaysC T w K
  of := fun _ _ e => ⟨_, He.frG_in, e⟩
  keeps := fun _ _ _ ⟨K, hK, c⟩ k => ⟨K, PySem.W.Frag.In.keeps hK k, c⟩
theorem obsCG_eq {n : List Addr} {T : Tab} {g : Addr → Option Obj} {s : Shared} (h : ∀ a, g a = s.heap.get? a) : obsCG n T g = (hookC n T).obs s := by
  have e : g = s.heap.get? := funext h
  rw [e] <;> rfl
section
variable {T : Tab} {K : PySem.W.Frag} {w : World}
theorem SaysC.chk (c : SaysC T w K) : CS.chk T K = true := (ba (show (CS.chk T K && T.defs.all fun d => d.ok K) = true from congrArg (fun z : He.AlT => z.1.1) c)).1
theorem SaysC.def_ (c : SaysC T w K) (i : Nat) {d : He5.DefA} (h : T.defs[i]? = some d) : ∃ fd, L2.FunD K d.name d.qual d.params d.body d.scope (d.dvs K) (d.kws K) (d.at_ K) fd := by
  have c2 := (ba (show (CS.chk T K && T.defs.all fun d => d.ok K) = true from congrArg (fun z : He.AlT => z.1.1) c)).2
  have e : T.defs.map (fun d => He5.fnA K (d.at_ K)) = T.defs.map He5.DefA.val := congrArg (fun z : He.AlT => z.1.2) c
  have e2 : (T.defs.map fun d => He5.fnA K (d.at_ K))[i]? = (T.defs.map He5.DefA.val)[i]? := by rw [e]
  rw [List.getElem?_map, List.getElem?_map, h] at e2
  exact He5.DefA.funD (Option.some.inj e2) (List.all_eq_true.mp c2 d (List.mem_of_getElem? h))
theorem SaysC.tab (c : SaysC T w K) {t : Str × List (Str × PV)} (h : t ∈ T.C.ds) : He.dicW K (He.ga K t.1) = some (He.keysIn w.params (t.2.map (·.1))) := by
  have e : (T.C.ds.map fun t => He.dicW K (He.ga K t.1)) = T.C.ds.map fun t => some (He.keysIn w.params (t.2.map (·.1))) := congrArg (fun z : He.AlT => z.2) c
  exact List.map_inj_left.mp e t h
theorem key_none {P : Params} {k : Str} : ∀ {l : List DictEntry} {ks : List Str}, l.map He.keyOf = He.keysIn P ks → k ∉ ks → l.find? (·.key.isStr k) = none ∧ l.any (·.refKey) = false
  | [], _, _, _ => ⟨rfl, rfl⟩
  | e :: r, [], h, _ => by cases h
  | e :: r, x :: ks, h, hk => by
    have h1 : He.keyOf e :: r.map He.keyOf = some (x, PyData.keyHash P x) :: He.keysIn P ks := h
    injection h1 with h2 h3
    obtain ⟨i1, i2⟩ := key_none h3 (fun q => hk (List.mem_cons_of_mem _ q))
    unfold He.keyOf at h2
    split at h2
    · rename_i y t q
      obtain ⟨rfl, _⟩ := Prod.mk.inj (Option.some.inj h2)
      have hne : y ≠ k := fun z => hk (by rw [z]; exact List.mem_cons_self ..)
      refine ⟨?_, ?_⟩
      · rw [List.find?_cons, q]
        have : (Value.str y t).isStr k = false := by
          show (y == k) = false
          simpa using hne
        rw [this]; exact i1
      · rw [List.any_cons, i2]
        have : e.refKey = false := by unfold DictEntry.refKey; rw [q]
        rw [this]; rfl
    · cases h2
theorem dic_none {P : Params} {d : Addr} {ks : List Str} {k : Str} (h : He.dicW K d = some (He.keysIn P ks)) (hk : k ∉ ks) : PySem.W.nsIn K d k = some none := by
  unfold He.dicW at h
  unfold PySem.W.nsIn
  split at h
  · rename_i c es n sl e
    rw [e]
    dsimp only
    split at h
    · obtain ⟨h1, h2⟩ := key_none (Option.some.inj h) hk
      rw [h1]
      dsimp only
      rw [h2]; rfl
    · cases h
  · cases h
theorem lookup_none_keys {kvs : List (Str × PV)} {k : Str} (h : kvs.lookup k = none) : k ∉ kvs.map (·.1) := by
  induction kvs with
  | nil => simp
  | cons q r ih =>
    obtain ⟨x, v⟩ := q
    rw [List.lookup_cons] at h
    cases e : k == x with
    | true => rw [e] at h; cases h
    | false =>
      rw [e] at h
      simp only [List.map_cons, List.mem_cons, not_or]
      exact ⟨by simpa using e, ih h⟩
theorem dic_ok {h : Heap} {mg : Str → Option Value} {fd : Nat → FuncData} (X : K.In h) (G : h.Ns mainGlobals mg) (c : SaysC T w K) : DicOk (T.pk K fd) K w mg := fun x kvs hx => by
  have hc := c.chk
  unfold CS.chk at hc
  have hd : T.C.ds.all (chkDic K) = true := by
    obtain ⟨_, hc⟩ := ba hc
    obtain ⟨_, hc⟩ := ba hc
    obtain ⟨_, hc⟩ := ba hc
    obtain ⟨_, hc⟩ := ba hc
    obtain ⟨_, hc⟩ := ba hc
    obtain ⟨_, hc⟩ := ba hc
    obtain ⟨_, hc⟩ := ba hc
    obtain ⟨_, hc⟩ := ba hc
    obtain ⟨_, hc⟩ := ba hc
    exact (ba (ba hc).2).1
  have hm := lookup_mem (show T.C.ds.lookup x = some kvs from hx)
  obtain ⟨q1, q2⟩ := ba (List.all_eq_true.mp hd _ hm)
  have w1 := c.tab hm
  obtain ⟨es, n, KD⟩ := He.dicW_ok w1
  refine ⟨He.ga K x, es, n, PySem.W.mg_of X G (He.eqO_ok q1), KD, fun k v hl => ?_, fun k hl => dic_none w1 (lookup_none_keys hl)⟩
  have q := List.all_eq_true.mp q2 _ (lookup_mem hl)
  unfold chkKv at q
  split at q
  · rename_i j t i e1 e2
    have q := of_decide_eq_true q
    dsimp only at e1 e2
    subst e2
    rw [q] at e1
    exact ⟨_, .int i, e1, ⟨t, rfl⟩, fun _ _ _ => rfl⟩
  · rename_i y t z e1 e2
    have q := of_decide_eq_true q
    dsimp only at e1 e2
    subst e2
    rw [q] at e1
    exact ⟨_, .str z, e1, ⟨t, rfl⟩, fun _ _ _ => rfl⟩
  · cases q
/-- each def's function data -/
def FdOk (T : Tab) (K : PySem.W.Frag) (fd : Nat → FuncData) : Prop := ∀ (f : Nat) (d : He5.DefA), T.defs[f]? = some d → L2.FunD K d.name d.qual d.params d.body d.scope (d.dvs K) (d.kws K) (T.fa K f) (fd f)
theorem SaysC.fds (c : SaysC T w K) : ∃ fd, FdOk T K fd := by
  have key : ∀ f : Nat, ∃ x : FuncData, ∀ d : He5.DefA, T.defs[f]? = some d → L2.FunD K d.name d.qual d.params d.body d.scope (d.dvs K) (d.kws K) (T.fa K f) x := fun f => by
    cases e : T.defs[f]? with
    | none => exact ⟨⟨Str.empty, Str.empty, ⟨[], [], none, [], [], none, []⟩, .stmts [], ⟨.function, [], false, false, []⟩, 0, [], .none, .none, .none, .none, none, .none, .none, 0⟩, fun d h => by cases h⟩
    | some d =>
      obtain ⟨x, hx⟩ := c.def_ f e
      refine ⟨x, fun d' h => ?_⟩
      cases h
      unfold Tab.fa
      rw [e]
      exact hx
  exact ⟨fun f => Classical.choose (key f), fun f d h => Classical.choose_spec (key f) d h⟩
end
end CS
namespace CS
open PySem L2
section
variable {T : Tab} {K : PySem.W.Frag} {fd : Nat → FuncData}
theorem tab_call {prog : Program} {w : World} (X : K.In h) (G : h.Ns mainGlobals mg) (O : TabOk T) (hc : chk T K = true) (dk : DicOk (T.pk K fd) K w mg) (hf : FdOk T K fd) (hb : ∀ f n ks perm, (f, n, ks, perm) ∈ T.C.bs → BindOk (T.pk K fd) K f n ks perm) {base : Heap} (dd : Nat) :
    CallOk (T.pk K fd) prog w K mg base (2 * dd) (callF T.G dd) := by
  obtain ⟨p, k⟩ := pk_ok X G O hc hb
  refine callF_ok (P := T.pk K fd) (Ns := fun f => T.Ns.getD f []) (n := 200) p k dk (fun f F e => ?_) dd
  obtain ⟨d, ed⟩ := O.len f F e
  exact ⟨⟨d.name, d.qual, d.params, d.body, d.scope, _, _, hf f d ed, O.sc f d ed, O.body f F d e ed⟩, (O.np f F e).symm, O.ns f F e⟩
/-- the law's promise from the plain equation -/
theorem law_sp {B : Nm} {f : Nat} {H : Hp} {a : Addr} {ns : List Int} {call : Nat → List PV → SH → R PV} (hO : Only H) (hS : SqL K H a (ns.map V.int)) (h : ∃ s, call f [.scr (ns.map .int)] [] = .ok (.bl true) s) :
    spI B K call f 1 [.ref a] H (fun v _ => v = .bl true) fun _ _ _ => False := by
  have hv : ∀ l : List Int, RVs K ⟨fun _ => 0, fun _ => False, B⟩ 0 H (l.map PV.int) (l.map V.int) := fun l => by
    induction l with
    | nil => rfl
    | cons i l ih => exact ⟨_, _, rfl, rfl, ih⟩
  have hR : RoL K H a (ns.map V.int) := by
    rcases hS with (e | ⟨o, e⟩) | e
    · rcases hO a with z | ⟨o, xs, z⟩ <;> (rw [e] at z; cases z)
    · exact .inl ⟨o, e⟩
    · exact .inr e
  obtain ⟨s, e⟩ := h
  exact ⟨⟨fun _ => 0, fun _ => False, B⟩, [], [.scr (ns.map .int)], ⟨rfl, fun i hi => by simp at hi, fun a z => z.elim, fun i j hi => by simp at hi, fun i d ed => by simp at ed⟩, RVs.one ⟨a, _, rfl, hR, hv ns⟩, rfl, .bl true, s, e, fun m' H' x g r => r⟩
theorem walk_tab {l : PySem.W.OpenLaw} {dd : Nat} {q : Program} {loose : List Str} {XP : (Str → Option Value) → Heap → Prop} {d : DefRec} {x : Str} {law : Nat} {hn : List Addr} {F : FnI}
    (hm : l.most = some 63) (hdf : d.params.defaults = []) (hr : Room (2 * dd) callerA) (O : TabOk T) (hF : T.G.fns[law]? = some F) (hnp : F.np = 1) (hps : T.ps.getD law [] = [x]) (hl : T.C.fns.lookup d.name = some (law, [x]))
    (hB : ∀ K fd, FdOk T K fd → chk T K = true → ∀ f n ks perm, (f, n, ks, perm) ∈ T.C.bs → BindOk (T.pk K fd) K f n ks perm)
    (hL : ∀ K fd, FdOk T K fd → ∀ (s : Shared) (u : Value), BindsTo s (fd law) ⟨[u], []⟩ [(x, u)])
    (plain : ∀ ns : List Int, ns.length ≤ 63 → (∀ k ∈ ns, Builtin.Int.intBits k ≤ 1048576) → ∃ s, callF T.G dd law [.scr (ns.map .int)] [] = .ok (.bl true) s) :
    PySem.W.WalkO q loose XP (hookC hn T).says l.row.toRowW d [] (fun f vs => PySem.call f vs) := by
  refine Att.attach_callB hm hdf fun w s₀ s₁ mg mb fa o pm cd doc a vs ns G Y ho hd hcd hmg hobj hints hlen hbits hg => ?_
  obtain ⟨K, KX, c⟩ := Y
  obtain ⟨fd, hf⟩ := c.fds
  have hc := c.chk
  have hb := hB K fd hf hc
  have p := (pk_ok (fd := fd) KX G.T.g O hc hb).1
  have e := (p.fns d.name law [x] hl).1
  rw [hmg] at e
  cases e
  refine law_call (CX := CX0) (k := 2 * dd) (fd := fd law) (x := x) (sp := spI (T.B K) K (callF T.G dd) law 1) KX G.T.g G.T.b G.T.builtins G.T.nolimit hg hobj hints (Nat.le_trans hlen (by decide)) hr (fun base kb nb => ?_) (hL K fd hf) (fun H hO hS => law_sp hO hS (plain ns hlen hbits)) fun H e s' z => z
  have q := tab_call (h := base) (mg := mg) (prog := l.prog) (w := w) kb nb O hc (dic_ok kb nb c) hf hb (base := base) dd law F hF
  rw [hnp] at q
  have e2 : (T.pk K fd).ps law = [x] := hps
  rw [e2] at q
  exact q
end
end CS
end CSHead2_

section CSBind_
set_option maxRecDepth 100000
set_option maxHeartbeats 4000000
namespace CS
open PySem L2
section
variable {T : Tab} {K : PySem.W.Frag} {fd : Nat → FuncData} {f n : Nat} {ks : List Str} {perm : List Nat} {F : FnI} {d : He5.DefA}
/-- a call that writes every parameter, a def without defaults -/
theorem bind_plain (hf : FdOk T K fd) (hd : T.defs[f]? = some d) (hF : T.G.fns[f]? = some F) (h0 : d.dfl = []) (hdf : F.df = [])
    (h : ∀ (kV doc pm : Value) (an : Option Addr) (cdv ct : Value) (us ws : List Value), us.length = n → ws.length = ks.length →
      bindArgs (PySem.W.fnOf d.name d.qual d.params d.body d.scope .none kV doc pm an cdv ct) ⟨us, ks.zip ws⟩ = pure ((T.ps.getD f []).zip (ordL perm (us ++ ws)))) : BindOk (T.pk K fd) K f n ks perm := by
  have FD := hf f d hd
  have e0 : d.dvs K = [] := by unfold He5.DefA.dvs; rw [h0]; rfl
  rw [e0] at FD
  obtain ⟨oc, od, dV, kV, doc, pm, an, cdv, ct, osl, e, lk, hcd, hD, hK⟩ := FD.ex
  refine ⟨F, [], [], hF, .nil, fun m n' H => ?_, fun s us ws X h1 h2 => ?_⟩
  · have : dfl F (n + ks.length) = [] := by unfold dfl; rw [hdf]; exact List.drop_nil
    rw [this]; rfl
  · rcases hD with ⟨_, rfl⟩ | ⟨e2, _⟩
    · show BindsTo s (fd f) _ _
      rw [e, List.append_nil]
      exact .of_eq (h kV doc pm an cdv ct us ws h1 h2)
    · exact absurd rfl e2
theorem dv_ok {v : PV} {d : He.Dv} {m : Mp} {n : Nat} {H : Hp} (h : chkDv K v d = true) : RV K m n H v (d.v K) := by
  unfold chkDv at h
  split at h
  · rfl
  · have := of_decide_eq_true h; subst this; rfl
  · have := of_decide_eq_true h; subst this; rfl
  · have := of_decide_eq_true h; subst this; rfl
  · rename_i p
    split at h
    · rename_i t od its z sl e
      obtain ⟨h1, h2⟩ := ba h
      have := of_decide_eq_true h1
      subst this
      have h3 : its = #[] := by simpa using h2
      subst h3
      exact ⟨p K, [], rfl, .inr ⟨rfl, _, z, e, rfl, rfl⟩, rfl⟩
    · cases h
  · cases h
theorem dvs_ok {m : Mp} {n : Nat} {H : Hp} : ∀ {vs : List PV} {ds : List He.Dv}, chkDvs K vs ds = true → RVs K m n H vs (ds.map (He.Dv.v K))
  | [], [], _ => rfl
  | [], _ :: _, h => by cases h
  | _ :: _, [], h => by cases h
  | v :: vs, d :: ds, h => by
    obtain ⟨h1, h2⟩ := ba (show (chkDv K v d && chkDvs K vs ds) = true from h)
    exact ⟨_, _, rfl, dv_ok h1, dvs_ok h2⟩
/-- a call of a def with defaults; j: the first default that fills up -/
theorem bind_dfl (hf : FdOk T K fd) (hc : chk T K = true) (hd : T.defs[f]? = some d) (hF : T.G.fns[f]? = some F) (h0 : d.dfl ≠ []) (j : Nat) (hj : F.df.length - (F.np - (n + ks.length)) = j)
    (h : ∀ (A : Addr) (kV doc pm : Value) (an : Option Addr) (cdv ct : Value) (us ws its : List Value), us.length = n → ws.length = ks.length → its.length = d.dfl.length →
      ∃ k, bindArgs (PySem.W.fnOf d.name d.qual d.params d.body d.scope (.ref A) kV doc pm an cdv ct) ⟨us, ks.zip ws⟩ = seqItems? (.ref A) >>= k ∧ k (some its.toArray) = pure ((T.ps.getD f []).zip (ordL perm (us ++ ws) ++ its.drop j))) : BindOk (T.pk K fd) K f n ks perm := by
  have FD := hf f d hd
  obtain ⟨oc, od, dV, kV, doc, pm, an, cdv, ct, osl, e, lk, hcd, hD, hK⟩ := FD.ex
  have hne : d.dvs K ≠ [] := by
    unfold He5.DefA.dvs
    intro z
    exact h0 (List.map_eq_nil_iff.mp z)
  rcases hD with ⟨e2, _⟩ | ⟨_, A, o, its, z, rfl, lT, oT, rT⟩
  · exact absurd e2 hne
  · have l1 : its.length = d.dfl.length := by rw [← rT.length]; unfold He5.DefA.dvs; rw [List.length_map]
    have hck : chkDvs K F.df d.dfl = true := by
      unfold chk at hc
      obtain ⟨_, hc⟩ := ba hc
      obtain ⟨_, hc⟩ := ba hc
      obtain ⟨_, hc⟩ := ba hc
      obtain ⟨_, hc⟩ := ba hc
      obtain ⟨_, hc⟩ := ba hc
      obtain ⟨_, hc⟩ := ba hc
      obtain ⟨c7, _⟩ := ba hc
      have q := List.all_eq_true.mp c7 f (List.mem_range.mpr (List.getElem?_eq_some_iff.mp hF).1)
      unfold chkDf at q
      rw [hF, hd] at q
      exact q
    refine ⟨F, its.drop j, (d.dvs K).drop j, hF, rT.drop j, fun m n' H => ?_, fun s us ws X h1 h2 => ?_⟩
    · unfold dfl
      rw [hj]
      exact RVs.drop _ (dvs_ok hck)
    · show BindsTo s (fd f) _ _
      rw [e]
      obtain ⟨k, e1, e2⟩ := h A kV doc pm an cdv ct us ws its h1 h2 l1
      refine BindsTo.of_looks fun M => ?_
      rw [e1]
      exact looks_items X lT oT (.of_pure e2)
end
end CS
end CSBind_

section CSSimp_
set_option maxRecDepth 100000
namespace CS
open PySem (Str)
/-! ### evaluation by simp -/
section
variable {α β : Type} {G : Gs} {call : Nat → List PV → SH → R PV} {σ : Sl} {s : SH}
@[simp] theorem bind_ok (a : α) (s : SH) (f : α → SH → R β) : (R.ok a s).bind f = f a s := rfl
@[simp] theorem bind_bad (w : Nat) (f : α → SH → R β) : (R.bad w).bind f = .bad w := rfl
@[simp] theorem flE_ok (v : PV) (s : SH) (f : PV → SH → Fl) : flE (.ok v s) f = f v s := rfl
@[simp] theorem at_next (σ : Sl) (s : SH) (f : Sl → SH → Fl) : (Fl.next σ s).andThen f = f σ s := rfl
@[simp] theorem at_ret (v : PV) (s : SH) (f : Sl → SH → Fl) : (Fl.ret v s).andThen f = .ret v s := rfl
@[simp] theorem at_cont (σ : Sl) (s : SH) (f : Sl → SH → Fl) : (Fl.cont σ s).andThen f = .cont σ s := rfl
@[simp] theorem at_brk (σ : Sl) (s : SH) (f : Sl → SH → Fl) : (Fl.brk σ s).andThen f = .brk σ s := rfl
@[simp] theorem liftO_some (a : α) (s : SH) (w : Nat) : liftO (some a) s w = .ok a s := rfl
@[simp] theorem effO_some (z : Bool) (e : Eff) (s : SH) (w : Nat) : effO z (some e) s w = apE z e s := rfl
@[simp] theorem apE_val (z : Bool) (v : PV) (s : SH) : apE z (.val v) s = .ok v s := rfl
@[simp] theorem apE_newT (xs : List PV) (s : SH) : apE true (.new (.lst xs)) s = .ok (.rol xs) s := rfl
@[simp] theorem apE_newF (xs : List PV) (s : SH) : apE false (.new (.lst xs)) s = .ok (.ref s.length) (s ++ [.lst xs]) := rfl
@[simp] theorem apE_wr (z : Bool) (a : Nat) (c : Cell) (v : PV) (s : SH) : apE z (.wr a c v) s = .ok v (s.set a c) := rfl
@[simp] theorem ev_c (v : PV) : ev G call (.c v) σ s = .ok v s := by simp only [ev]
/-- a slot's value -/
def slot (o : Option (Option PV)) (s : SH) : R PV := match o with | some (some v) => .ok v s | _ => .bad 30
@[simp] theorem slot_some (v : PV) (s : SH) : slot (some (some v)) s = .ok v s := rfl
@[simp] theorem ev_v (i : Nat) : ev G call (.v i) σ s = slot σ[i]? s := by simp only [ev]; rfl
@[simp] theorem ev_prim (z : Bool) (o : Prim) (es : Es) : ev G call (.prim z o es) σ s = (evs G call es σ s).bind fun vs s => ownP G call o vs s (effO z (prim s o vs) s 31) := by simp only [ev]
@[simp] theorem ownP_tup (vs : List PV) (s : SH) (d : R PV) : ownP G call .tup vs s d = d := rfl
@[simp] theorem ownP_lst (vs : List PV) (s : SH) (d : R PV) : ownP G call .lst vs s d = d := rfl
@[simp] theorem ownP_neg (vs : List PV) (s : SH) (d : R PV) : ownP G call .neg vs s d = d := rfl
@[simp] theorem ownP_abs (vs : List PV) (s : SH) (d : R PV) : ownP G call .abs vs s d = d := rfl
@[simp] theorem ownP_int (vs : List PV) (s : SH) (d : R PV) : ownP G call .int vs s d = d := rfl
@[simp] theorem ownP_str (vs : List PV) (s : SH) (d : R PV) : ownP G call .str vs s d = d := rfl
@[simp] theorem ownP_max (vs : List PV) (s : SH) (d : R PV) : ownP G call .max vs s d = d := rfl
@[simp] theorem ownP_min (vs : List PV) (s : SH) (d : R PV) : ownP G call .min vs s d = d := rfl
@[simp] theorem ownP_sum (vs : List PV) (s : SH) (d : R PV) : ownP G call .sum vs s d = d := rfl
@[simp] theorem ownP_all (vs : List PV) (s : SH) (d : R PV) : ownP G call .all vs s d = d := rfl
@[simp] theorem ownP_any (vs : List PV) (s : SH) (d : R PV) : ownP G call .any vs s d = d := rfl
@[simp] theorem ownP_tuple (vs : List PV) (s : SH) (d : R PV) : ownP G call .tuple vs s d = d := rfl
@[simp] theorem ownP_list (vs : List PV) (s : SH) (d : R PV) : ownP G call .list vs s d = d := rfl
@[simp] theorem ownP_sorted (vs : List PV) (s : SH) (d : R PV) : ownP G call .sorted vs s d = d := rfl
@[simp] theorem ownP_append (vs : List PV) (s : SH) (d : R PV) : ownP G call .append vs s d = d := rfl
@[simp] theorem ownP_pop (vs : List PV) (s : SH) (d : R PV) : ownP G call .pop vs s d = d := rfl
@[simp] theorem ownP_join (vs : List PV) (s : SH) (d : R PV) : ownP G call .join vs s d = d := rfl
@[simp] theorem ownP_split (vs : List PV) (s : SH) (d : R PV) : ownP G call .split vs s d = d := rfl
@[simp] theorem ownP_fmt (vs : List PV) (s : SH) (d : R PV) : ownP G call .fmt vs s d = d := rfl
@[simp] theorem ownP_starts (vs : List PV) (s : SH) (d : R PV) : ownP G call .starts vs s d = d := rfl
@[simp] theorem ownP_min1 (vs : List PV) (s : SH) (d : R PV) : ownP G call .min1 vs s d = d := rfl
@[simp] theorem ownP_max1 (vs : List PV) (s : SH) (d : R PV) : ownP G call .max1 vs s d = d := rfl
@[simp] theorem ownP_count (vs : List PV) (s : SH) (d : R PV) : ownP G call .count vs s d = d := rfl
@[simp] theorem ownP_isi (ts : List Ty) (vs : List PV) (s : SH) (d : R PV) : ownP G call (.isi ts) vs s d = d := rfl
@[simp] theorem ownP_ix_tup (xs : List PV) (y : PV) (s : SH) (d : R PV) : ownP G call .ix [(.tup xs), y] s d = d := rfl
@[simp] theorem ownP_len_tup (xs : List PV) (s : SH) (d : R PV) : ownP G call .len [(.tup xs)] s d = d := rfl
@[simp] theorem ownP_ix_rol (xs : List PV) (y : PV) (s : SH) (d : R PV) : ownP G call .ix [(.rol xs), y] s d = d := rfl
@[simp] theorem ownP_len_rol (xs : List PV) (s : SH) (d : R PV) : ownP G call .len [(.rol xs)] s d = d := rfl
@[simp] theorem ownP_ix_scr (xs : List PV) (y : PV) (s : SH) (d : R PV) : ownP G call .ix [(.scr xs), y] s d = d := rfl
@[simp] theorem ownP_len_scr (xs : List PV) (s : SH) (d : R PV) : ownP G call .len [(.scr xs)] s d = d := rfl
@[simp] theorem ownP_ix_str (xs : Str) (y : PV) (s : SH) (d : R PV) : ownP G call .ix [.str xs, y] s d = d := rfl
@[simp] theorem ownP_len_str (xs : Str) (s : SH) (d : R PV) : ownP G call .len [.str xs] s d = d := rfl
/-- a cell that is an own thing or not -/
def ownI (o : Option Cell) (k : Nat → R PV) (d : R PV) : R PV := match o with | some (.ins c _) => k c | _ => d
@[simp] theorem ownI_lst (xs : List PV) (k : Nat → R PV) (d : R PV) : ownI (some (.lst xs)) k d = d := rfl
@[simp] theorem ownI_ins (c : Nat) (fs : List (Nat × PV)) (k : Nat → R PV) (d : R PV) : ownI (some (.ins c fs)) k d = k c := rfl
/-- a method's answer -/
def methR (o : Option Nat) (k : Nat → R PV) : R PV := match o with | some f => k f | none => .bad 14
@[simp] theorem methR_some (f : Nat) (k : Nat → R PV) : methR (some f) k = k f := rfl
@[simp] theorem ownP_ix_ref (n : Nat) (y : PV) (s : SH) (d : R PV) : ownP G call .ix [.ref n, y] s d = ownI s[n]? (fun c => methR (methOf G c 9) fun f => call f [.ref n, y] s) d := by
  simp only [ownP, insOf]
  cases s[n]? with
  | none => rfl
  | some c => cases c <;> rfl
@[simp] theorem ownP_len_ref (n : Nat) (s : SH) (d : R PV) : ownP G call .len [.ref n] s d = ownI s[n]? (fun c => methR (methOf G c 8) fun f => (call f [.ref n] s).bind lenB) d := by
  simp only [ownP, insOf]
  cases s[n]? with
  | none => rfl
  | some c => cases c <;> rfl
@[simp] theorem ownP_ix_obj (c : Nat) (xs : List PV) (y : PV) (s : SH) (d : R PV) : ownP G call .ix [.obj c xs, y] s d = methR (methOf G c 9) fun f => call f [.obj c xs, y] s := rfl
@[simp] theorem ownP_len_obj (c : Nat) (xs : List PV) (s : SH) (d : R PV) : ownP G call .len [.obj c xs] s d = methR (methOf G c 8) fun f => (call f [.obj c xs] s).bind lenB := rfl
theorem lenB_int {i : Int} {s : SH} (h : 0 ≤ i) (h2 : lim63 i = true) : lenB (.int i) s = .ok (.int i) s := by simp only [lenB, h2, if_true]; rw [if_pos h]
@[simp] theorem ev_bin (z : Bool) (o : BinO) (a b : IE) : ev G call (.bin z o a b) σ s = (ev G call a σ s).bind fun x s => (ev G call b σ s).bind fun y s => binV G call z o x y s := by simp only [ev]
@[simp] theorem ev_cmp (o : CmpO) (a b : IE) : ev G call (.cmp o a b) σ s = (ev G call a σ s).bind fun x s => (ev G call b σ s).bind fun y s => cmpV G call o x y s := by simp only [ev]
@[simp] theorem ev_chain (o p : CmpO) (a b c : IE) : ev G call (.chain o p a b c) σ s = (ev G call a σ s).bind fun x s => (ev G call b σ s).bind fun y s => (liftO (cmpP s o x y) s 32).bind fun k s =>
      if k then (ev G call c σ s).bind fun z s => liftO ((cmpP s p y z).map .bl) s 33 else .ok (.bl false) s := by simp only [ev]
@[simp] theorem ev_and (a b : IE) : ev G call (.and_ a b) σ s = (ev G call a σ s).bind fun x s => (liftO (tru s x) s 34).bind fun k s => if k then ev G call b σ s else .ok x s := by simp only [ev]
@[simp] theorem ev_or (a b : IE) : ev G call (.or_ a b) σ s = (ev G call a σ s).bind fun x s => (liftO (tru s x) s 35).bind fun k s => if k then .ok x s else ev G call b σ s := by simp only [ev]
@[simp] theorem ev_not (a : IE) : ev G call (.not_ a) σ s = (ev G call a σ s).bind fun x s => (liftO (tru s x) s 36).bind fun k s => .ok (.bl (!k)) s := by simp only [ev]
@[simp] theorem ev_ite (c : IT) (a b : IE) : ev G call (.ite c a b) σ s = (evT G call c σ s).bind fun k s => if k then ev G call a σ s else ev G call b σ s := by simp only [ev]
@[simp] theorem ev_slice (z : Bool) (a : IE) (lo hi : OpI) : ev G call (.slice z a lo hi) σ s = (ev G call a σ s).bind fun x s => (evO G call lo σ s).bind fun l s => (evO G call hi σ s).bind fun u s => sliceV z x l u s := by simp only [ev]
@[simp] theorem ev_attr (a : IE) (f : Nat) : ev G call (.attr a f) σ s = (ev G call a σ s).bind fun x s => attrV G call f x s := by simp only [ev]
@[simp] theorem ev_call (f : Nat) (es ks : Es) (perm : List Nat) : ev G call (.call f es ks perm) σ s = (evs G call es σ s).bind fun vs s => (evs G call ks σ s).bind fun ws s => callV G call f (vs ++ ws) perm s := by simp only [ev]
@[simp] theorem ev_mk (c : Nat) (es ks : Es) (perm : List Nat) : ev G call (.mk c es ks perm) σ s = (evs G call es σ s).bind fun vs s => (evs G call ks σ s).bind fun ws s => mkV G call c (vs ++ ws) perm s := by simp only [ev]
@[simp] theorem ev_bm (o : Prim) (a : IE) (es : Es) : ev G call (.bm o a es) σ s = (ev G call a σ s).bind fun x s => if bmTy s o x then (evs G call es σ s).bind fun vs s => effO true (prim s o (x :: vs)) s 31 else .bad 53 := by simp only [ev]
@[simp] theorem ev_meth (a : IE) (m : Nat) (es : Es) : ev G call (.meth a m es) σ s = (ev G call a σ s).bind fun x s => (liftO (methFind G m x s) s 24).bind fun f s => (evs G call es σ s).bind fun vs s => callV G call f (x :: vs) [] s := by simp only [ev]
@[simp] theorem ev_calo (a : IE) (m : Nat) (es ks : Es) (perm : List Nat) : ev G call (.calo a m es ks perm) σ s = (ev G call a σ s).bind fun x s => (evs G call es σ s).bind fun vs s => (evs G call ks σ s).bind fun ws s => (liftO (methFind G m x s) s 24).bind fun f s => callV G call f (x :: (vs ++ ws)) perm s := by simp only [ev]
@[simp] theorem ev_dget (kvs : List (Str × PV)) (a : IE) : ev G call (.dget kvs a) σ s = (ev G call a σ s).bind fun x s => liftO ((asS x).bind fun k => kvs.lookup k) s 28 := by simp only [ev]
@[simp] theorem ev_din (kvs : List (Str × PV)) (neg : Bool) (a : IE) : ev G call (.din kvs neg a) σ s = (ev G call a σ s).bind fun x s => liftO ((asS x).map fun k => .bl (xor neg (kvs.lookup k).isSome)) s 29 := by simp only [ev]
/-- a comprehension's turn -/
def turnC (G : Gs) (call : Nat → List PV → SH → R PV) (elt : IE) (t : Tg) (tst : IT) (σ : Sl) (v : PV) (s : SH) : R (Option PV) := match asg G call t v σ s with
  | .next σ' s => (evT G call tst σ' s).bind fun k s => if k then (ev G call elt σ' s).bind fun y s => .ok (some y) s else .ok none s
  | _ => .bad 43
@[simp] theorem ev_comp (z : Bool) (elt : IE) (own : List Nat) (t : Tg) (it : It) (tst : IT) : ev G call (.comp z elt own t it tst) σ s = (evI G call it σ s).bind fun src s =>
      (compS src (turnC G call elt t tst (wipeS σ own)) (src.size s + 1) 0 [] s).bind fun vs s => apE z (.new (.lst vs)) s := by simp only [ev]; rfl
@[simp] theorem ev_disp (z : Bool) (ds : Ds) : ev G call (.disp z ds) σ s = (evd G call ds σ s).bind fun vs s => effO z (pLst vs) s 31 := by simp only [ev]
@[simp] theorem ev_rev (z : Bool) (a : IE) : ev G call (.rev z a) σ s = (ev G call a σ s).bind fun x s => revV z x s := by simp only [ev]
@[simp] theorem revV_tup (z : Bool) (xs : List PV) : revV z (.tup xs) s = .ok (.tup xs.reverse) s := rfl
@[simp] theorem revV_rol (z : Bool) (xs : List PV) : revV z (.rol xs) s = apE z (.new (.lst xs.reverse)) s := rfl
@[simp] theorem evd_nil : evd G call .nil σ s = .ok [] s := by simp only [evd]
@[simp] theorem evd_item (e : IE) (ds : Ds) : evd G call (.item e ds) σ s = (ev G call e σ s).bind fun x s => (evd G call ds σ s).bind fun xs s => .ok (x :: xs) s := by simp only [evd]
@[simp] theorem evd_star (e : IE) (ds : Ds) : evd G call (.star e ds) σ s = (ev G call e σ s).bind fun x s => (liftO (seqOf s x) s 91).bind fun ys s => (evd G call ds σ s).bind fun zs s => .ok (ys ++ zs) s := by simp only [evd]
@[simp] theorem evs_nil : evs G call .nil σ s = .ok [] s := by simp only [evs]
@[simp] theorem evs_cons (e : IE) (es : Es) : evs G call (.cons e es) σ s = (ev G call e σ s).bind fun x s => (evs G call es σ s).bind fun xs s => .ok (x :: xs) s := by simp only [evs]
@[simp] theorem evO_none : evO G call .none σ s = .ok none s := by simp only [evO]
@[simp] theorem evO_some (e : IE) : evO G call (.some e) σ s = (ev G call e σ s).bind fun x s => liftO ((asI x).map Option.some) s 37 := by simp only [evO]
@[simp] theorem evT_yes : evT G call .yes σ s = .ok true s := by simp only [evT]
@[simp] theorem evT_e (a : IE) : evT G call (.e a) σ s = (ev G call a σ s).bind fun x s => liftO (tru s x) s 44 := by simp only [evT]
def asB (x : PV) (s : SH) : R Bool := match x with | .bl b => .ok b s | _ => .bad 44
@[simp] theorem asB_bl (b : Bool) (s : SH) : asB (.bl b) s = .ok b s := rfl
@[simp] theorem evT_c (a : IE) : evT G call (.c a) σ s = (ev G call a σ s).bind asB := by simp only [evT]; rfl
@[simp] theorem evT_and (a b : IT) : evT G call (.and_ a b) σ s = (evT G call a σ s).bind fun k s => if k then evT G call b σ s else .ok false s := by simp only [evT]
@[simp] theorem evT_or (a b : IT) : evT G call (.or_ a b) σ s = (evT G call a σ s).bind fun k s => if k then .ok true s else evT G call b σ s := by simp only [evT]
@[simp] theorem evT_not (a : IT) : evT G call (.not_ a) σ s = (evT G call a σ s).bind fun k s => .ok (!k) s := by simp only [evT]
@[simp] theorem evT_ite (c a b : IT) : evT G call (.ite c a b) σ s = (evT G call c σ s).bind fun k s => if k then evT G call a σ s else evT G call b σ s := by simp only [evT]
@[simp] theorem evI_val (e : IE) : evI G call (.val e) σ s = (ev G call e σ s).bind fun x s => liftO (srcOf s x) s 45 := by simp only [evI]
@[simp] theorem evI_range (es : Es) : evI G call (.range es) σ s = (evs G call es σ s).bind fun vs s => liftO (rangeOf vs) s 46 := by simp only [evI]
@[simp] theorem evI_zip (a b : IE) : evI G call (.zip a b) σ s = (ev G call a σ s).bind fun x s => (ev G call b σ s).bind fun y s => liftO (zipOf s x y) s 47 := by simp only [evI]
@[simp] theorem evI_enum (a : IE) : evI G call (.enum a) σ s = (ev G call a σ s).bind fun x s => liftO (enumOf s x) s 48 := by simp only [evI]
@[simp] theorem asg_name (i : Nat) (v : PV) : asg G call (.name i) v σ s = .next (σ.set i (some v)) s := by simp only [asg]
def nxO (o : Option Sl) (s : SH) : Fl := match o with | some σ => .next σ s | none => .bad 49
@[simp] theorem nxO_some (σ : Sl) (s : SH) : nxO (some σ) s = .next σ s := rfl
@[simp] theorem asg_names (is : List Nat) (xs : List PV) : asg G call (.names is) (.tup xs) σ s = nxO (setSl σ is xs) s := by simp only [asg, seqOf]; rfl
@[simp] theorem asg_namesR (is : List Nat) (xs : List PV) : asg G call (.names is) (.rol xs) σ s = nxO (setSl σ is xs) s := by simp only [asg, seqOf]; rfl
def nxR (x : R PV) (σ : Sl) : Fl := match x with | .ok _ s => .next σ s | .bad w => .bad w
@[simp] theorem nxR_ok (v : PV) (s : SH) (σ : Sl) : nxR (.ok v s) σ = .next σ s := rfl
@[simp] theorem asg_sub (a i : IE) (v : PV) : asg G call (.sub a i) v σ s = nxR ((ev G call a σ s).bind fun x s => (ev G call i σ s).bind fun j s => effO true (setItem s x j v) s 51) σ := by simp only [asg]; rfl
@[simp] theorem asg_attr (a : IE) (f : Nat) (v : PV) : asg G call (.attr a f) v σ s = nxR ((ev G call a σ s).bind fun x s => effO true (setAttr G s f x v) s 52) σ := by simp only [asg]; rfl
@[simp] theorem setSl_nil : setSl σ [] [] = some σ := rfl
@[simp] theorem setSl_cons (i : Nat) (is : List Nat) (v : PV) (vs : List PV) : setSl σ (i :: is) (v :: vs) = setSl (σ.set i (some v)) is vs := rfl
@[simp] theorem wipeS_nil : wipeS σ [] = σ := rfl
@[simp] theorem wipeS_cons (i : Nat) (is : List Nat) : wipeS σ (i :: is) = wipeS (σ.set i none) is := rfl
/-- a test's two ways -/
def ifF (x : R Bool) (f g : SH → Fl) : Fl := match x with | .ok true s => f s | .ok false s => g s | .bad w => .bad w
@[simp] theorem ifF_ok (b : Bool) (s : SH) (f g : SH → Fl) : ifF (.ok b s) f g = if b = true then f s else g s := by cases b <;> rfl
@[simp] theorem ex_asg (t : Tg) (e : IE) : ex G call (.asg t e) σ s = flE (ev G call e σ s) fun v s => asg G call t v σ s := by simp only [ex]
@[simp] theorem ex_ex (e : IE) : ex G call (.ex e) σ s = flE (ev G call e σ s) fun _ s => .next σ s := by simp only [ex]
@[simp] theorem ex_ret (e : IE) : ex G call (.ret e) σ s = flE (ev G call e σ s) fun v s => .ret v s := by simp only [ex]
@[simp] theorem ex_if (c : IT) (a b : Ss) : ex G call (.if_ c a b) σ s = ifF (evT G call c σ s) (fun s => exs G call a σ s) (fun s => exs G call b σ s) := by
  simp only [ex]
  cases evT G call c σ s with
  | bad w => rfl
  | ok b s => cases b <;> rfl
/-- a loop's turn -/
def turnF (G : Gs) (call : Nat → List PV → SH → R PV) (t : Tg) (b : Ss) (v : PV) (σ : Sl) (s : SH) : Fl := (asg G call t v σ s).andThen fun σ s => exs G call b σ s
def forR (x : R Src) (f : Src → SH → Fl) : Fl := match x with | .ok a s => f a s | .bad w => .bad w
@[simp] theorem forR_ok (a : Src) (s : SH) (f : Src → SH → Fl) : forR (.ok a s) f = f a s := rfl
@[simp] theorem ex_for (t : Tg) (it : It) (b : Ss) : ex G call (.for_ t it b) σ s = forR (evI G call it σ s) fun src s => forS src (turnF G call t b) (src.size s + 1) 0 σ s := by
  simp only [ex]
  cases evI G call it σ s <;> rfl
@[simp] theorem ex_while (c : IT) (b : Ss) : ex G call (.while_ c b) σ s = whileS (fun σ s => evT G call c σ s) (fun σ s => exs G call b σ s) (2 ^ 40) σ s := by simp only [ex]
@[simp] theorem ex_brk : ex G call .brk σ s = .brk σ s := by simp only [ex]
@[simp] theorem ex_cont : ex G call .cont σ s = .cont σ s := by simp only [ex]
@[simp] theorem ex_pass : ex G call .pass σ s = .next σ s := by simp only [ex]
@[simp] theorem exs_nil : exs G call .nil σ s = .next σ s := by simp only [exs]
@[simp] theorem exs_cons (i : IS) (is : Ss) : exs G call (.cons i is) σ s = (ex G call i σ s).andThen fun σ s => exs G call is σ s := by simp only [exs]
@[simp] theorem binV_int (z : Bool) (o : BinO) (x : Int) (y : PV) (s : SH) : binV G call z o (.int x) y s = effO z (binP s o (.int x) y) s 11 := rfl
@[simp] theorem binV_str (z : Bool) (o : BinO) (x : Str) (y : PV) (s : SH) : binV G call z o (.str x) y s = effO z (binP s o (.str x) y) s 11 := rfl
@[simp] theorem binV_tup (z : Bool) (o : BinO) (x : List PV) (y : PV) (s : SH) : binV G call z o (.tup x) y s = effO z (binP s o (.tup x) y) s 11 := rfl
@[simp] theorem binV_rol (z : Bool) (o : BinO) (x : List PV) (y : PV) (s : SH) : binV G call z o (.rol x) y s = effO z (binP s o (.rol x) y) s 11 := rfl
theorem binV_ref (z : Bool) (o : BinO) (n : Nat) (y : PV) (s : SH) (xs : List PV) (h : s[n]? = some (.lst xs)) : binV G call z o (.ref n) y s = effO z (binP s o (.ref n) y) s 11 := by
  unfold binV
  simp only [insOf, h]
end
/-! ### plain operations -/
section
variable {h : List Cell} {G : Gs} {call : Nat → List PV → SH → R PV} {s : SH}
@[simp] theorem p_tup (vs : List PV) : prim h .tup vs = pTup vs := rfl
@[simp] theorem p_lst (vs : List PV) : prim h .lst vs = pLst vs := rfl
@[simp] theorem p_neg (i : Int) : prim h .neg [.int i] = some (.val (.int (-i))) := rfl
@[simp] theorem p_ix (x : PV) (i : Int) : prim h .ix [x, .int i] = pIx1 h x i := rfl
@[simp] theorem p_len (x : PV) : prim h .len [x] = pLen1 h x := rfl
@[simp] theorem p_abs (i : Int) : prim h .abs [.int i] = some (.val (.int i.natAbs)) := by
  show some (Eff.val (.int (if i < 0 then -i else i))) = _
  congr 3
  split <;> omega
@[simp] theorem p_int (i : Int) : prim h .int [.int i] = some (.val (.int i)) := rfl
@[simp] theorem p_intb (b : Bool) : prim h .int [.bl b] = some (.val (.int (if b then 1 else 0))) := rfl
@[simp] theorem p_str (i : Int) : prim h .str [.int i] = (strI i).map fun s => .val (.str s) := rfl
@[simp] theorem p_max (i j : Int) : prim h .max [.int i, .int j] = some (.val (.int (max i j))) := by
  show some (Eff.val (.int (if j > i then j else i))) = _
  congr 3
  split <;> omega
@[simp] theorem p_min (i j : Int) : prim h .min [.int i, .int j] = some (.val (.int (min i j))) := by
  show some (Eff.val (.int (if j < i then j else i))) = _
  congr 3
  split <;> omega
@[simp] theorem p_sum (x : PV) : prim h .sum [x] = (seqOf h x).bind fun xs => (getInts xs).map fun is => .val (.int is.sum) := rfl
@[simp] theorem p_min1 (x : PV) : prim h .min1 [x] = (seqOf h x).bind fun xs => (getInts xs).bind fun is => (match is with
    | [] => none
    | i :: is => some (.val (.int (is.foldl min i)))) := rfl
@[simp] theorem p_max1 (x : PV) : prim h .max1 [x] = (seqOf h x).bind fun xs => (getInts xs).bind fun is => (match is with
    | [] => none
    | i :: is => some (.val (.int (is.foldl max i)))) := rfl
@[simp] theorem p_split (a b : Str) : prim h .split [.str a, .str b] = (splitS a b).map fun ss => .new (.lst (ss.map .str)) := rfl
@[simp] theorem p_starts (a b : Str) : prim h .starts [.str a, .str b] = some (.val (.bl (b.cps.toList.isPrefixOf a.cps.toList))) := rfl
@[simp] theorem asS_str (a : Str) : asS (.str a) = some a := rfl
@[simp] theorem p_all (x : PV) : prim h .all [x] = (lstOf h x).bind fun xs => (getBools xs).map fun bs => .val (.bl (bs.all id)) := rfl
@[simp] theorem p_any (x : PV) : prim h .any [x] = (lstOf h x).bind fun xs => (getBools xs).map fun bs => .val (.bl (bs.any id)) := rfl
@[simp] theorem p_tuple (x : PV) : prim h .tuple [x] = (seqOf h x).map fun xs => .val (.tup xs) := rfl
@[simp] theorem p_list (x : PV) : prim h .list [x] = (seqOf h x).map fun xs => .new (.lst xs) := rfl
@[simp] theorem p_sorted (x : PV) : prim h .sorted [x] = (seqOf h x).bind fun xs => (getPairs xs).map fun ps => .new (.lst ((sortP ps).map fun p => .tup [.int p.1, .int p.2])) := rfl
@[simp] theorem p_isi (ts : List Ty) (x : PV) : prim h (.isi ts) [x] = (isTys h x ts).map fun b => .val (.bl b) := rfl
@[simp] theorem p_append (n : Nat) (v : PV) : prim h .append [.ref n, v] = (match h[n]? with
    | some (.lst xs) => if xs.length < 16777216 then some (.wr n (.lst (xs ++ [v])) .non) else none
    | _ => none) := rfl
@[simp] theorem p_pop (n : Nat) (i : Int) : prim h .pop [.ref n, .int i] = (match h[n]? with
    | some (.lst xs) => if lim63 i then (ixN xs.length i).bind fun j => xs[j]?.map fun v => .wr n (.lst (xs.eraseIdx j)) v else none
    | _ => none) := rfl
@[simp] theorem p_join (sep : Str) (x : PV) : prim h .join [.str sep, x] = (lstOf h x).bind fun xs => (getStrs xs).bind fun ss => if sizeS ss + ss.length * sep.length ≤ 16777216 then some (.val (.str (joinS sep ss))) else none := rfl
@[simp] theorem p_fmt (vs : List PV) : prim h .fmt vs = (vs.mapM fmtS).bind fun ss => if sizeS ss ≤ 16777216 then some (.val (.str (ss.foldl (· ++ ·) ⟨#[]⟩))) else none := rfl
@[simp] theorem pTup_ok {vs : List PV} (h : vs.length ≤ 16777216) : pTup vs = some (.val (.tup vs)) := if_pos h
@[simp] theorem pLst_ok {vs : List PV} (h : vs.length ≤ 16777216) : pLst vs = some (.new (.lst vs)) := if_pos h
@[simp] theorem seqOf_tup (xs : List PV) : seqOf h (.tup xs) = some xs := rfl
@[simp] theorem seqOf_rol (xs : List PV) : seqOf h (.rol xs) = some xs := rfl
@[simp] theorem seqOf_scr (xs : List PV) : seqOf h (.scr xs) = some xs := rfl
/-- a cell's items -/
def cellL (o : Option Cell) : Option (List PV) := match o with | some (.lst xs) => some xs | _ => none
@[simp] theorem cellL_lst (xs : List PV) : cellL (some (.lst xs)) = some xs := rfl
@[simp] theorem seqOf_ref (n : Nat) : seqOf h (.ref n) = cellL h[n]? := rfl
@[simp] theorem lstOf_rol (xs : List PV) : lstOf h (.rol xs) = some xs := rfl
@[simp] theorem lstOf_scr (xs : List PV) : lstOf h (.scr xs) = some xs := rfl
@[simp] theorem lstOf_ref (n : Nat) : lstOf h (.ref n) = cellL h[n]? := rfl
@[simp] theorem lstOf_tup (xs : List PV) : lstOf h (.tup xs) = none := rfl
@[simp] theorem ownL_rol (xs : List PV) : ownL h (.rol xs) = some xs := rfl
@[simp] theorem ownL_ref (n : Nat) : ownL h (.ref n) = cellL h[n]? := rfl
@[simp] theorem pLen1_tup (xs : List PV) : pLen1 h (.tup xs) = some (.val (.int xs.length)) := rfl
@[simp] theorem pLen1_rol (xs : List PV) : pLen1 h (.rol xs) = some (.val (.int xs.length)) := rfl
@[simp] theorem pLen1_scr (xs : List PV) : pLen1 h (.scr xs) = some (.val (.int xs.length)) := rfl
@[simp] theorem pLen1_ref (n : Nat) : pLen1 h (.ref n) = (cellL h[n]?).map fun xs => .val (.int xs.length) := rfl
@[simp] theorem pIx1_tup (xs : List PV) (i : Int) : pIx1 h (.tup xs) i = ((ixN xs.length i).bind fun j => xs[j]?).map .val := rfl
@[simp] theorem pIx1_rol (xs : List PV) (i : Int) : pIx1 h (.rol xs) i = ((ixN xs.length i).bind fun j => xs[j]?).map .val := rfl
@[simp] theorem pIx1_scr (xs : List PV) (i : Int) : pIx1 h (.scr xs) i = ((ixN xs.length i).bind fun j => xs[j]?).map .val := rfl
@[simp] theorem pIx1_ref (n : Nat) (i : Int) : pIx1 h (.ref n) i = (cellL h[n]?).bind fun xs => ((ixN xs.length i).bind fun j => xs[j]?).map .val := rfl
@[simp] theorem tru_bl (b : Bool) : tru h (.bl b) = some b := rfl
@[simp] theorem tru_int (i : Int) : tru h (.int i) = some (i != 0) := rfl
@[simp] theorem tru_tup (xs : List PV) : tru h (.tup xs) = some (!xs.isEmpty) := rfl
@[simp] theorem tru_rol (xs : List PV) : tru h (.rol xs) = some (!xs.isEmpty) := rfl
@[simp] theorem tru_ref (n : Nat) : tru h (.ref n) = (cellL h[n]?).map fun xs => !xs.isEmpty := by
  simp only [tru, cellL]
  cases h[n]? with
  | none => rfl
  | some c => cases c <;> rfl
@[simp] theorem tru_non : tru h .non = some false := rfl
@[simp] theorem bm_append (n : Nat) : bmTy h .append (.ref n) = (cellL h[n]?).isSome := rfl
@[simp] theorem bm_pop (n : Nat) : bmTy h .pop (.ref n) = (cellL h[n]?).isSome := rfl
@[simp] theorem bm_join (s : Str) : bmTy h .join (.str s) = true := rfl
@[simp] theorem bm_split (s : Str) : bmTy h .split (.str s) = true := rfl
@[simp] theorem bm_starts (s : Str) : bmTy h .starts (.str s) = true := rfl
@[simp] theorem b_add (i j : Int) : binP h .add (.int i) (.int j) = some (.val (.int (i + j))) := rfl
@[simp] theorem b_sub (i j : Int) : binP h .sub (.int i) (.int j) = some (.val (.int (i - j))) := rfl
@[simp] theorem b_mul (i j : Int) : binP h .mul (.int i) (.int j) = if mulOk i j then some (.val (.int (i * j))) else none := rfl
@[simp] theorem b_fdiv (i j : Int) : binP h .fdiv (.int i) (.int j) = if 0 < j ∧ j.natAbs.log2 < 9000 then some (.val (.int (i / j))) else if j < 0 ∧ j.natAbs < 1073741824 then some (.val (.int (i.fdiv j))) else none := rfl
@[simp] theorem b_mulS (a : Str) (k : Int) : binP h .mul (.str a) (.int k) = if lim63 k && decide (a.length * k.toNat ≤ 16777216) then some (.val (.str (repS a k.toNat))) else none := rfl
@[simp] theorem b_mod (i j : Int) : binP h .mod (.int i) (.int j) = if 0 < j then some (.val (.int (i % j))) else none := rfl
@[simp] theorem b_pow (i j : Int) : binP h .pow (.int i) (.int j) = if 0 ≤ j ∧ j ≤ 1000000 ∧ i.natAbs < 2 ^ 64 then some (.val (.int (i ^ j.toNat))) else none := rfl
@[simp] theorem b_addS (a b : Str) : binP h .add (.str a) (.str b) = if a.length + b.length ≤ 16777216 then some (.val (.str (a ++ b))) else none := rfl
@[simp] theorem b_addT (xs ys : List PV) : binP h .add (.tup xs) (.tup ys) = if xs.length + ys.length ≤ 16777216 then some (.val (.tup (xs ++ ys))) else none := rfl
@[simp] theorem b_addR (xs : List PV) (y : PV) : binP h .add (.rol xs) y = (ownL h y).bind fun ys => if xs.length + ys.length ≤ 16777216 then some (.new (.lst (xs ++ ys))) else none := by cases y <;> rfl
@[simp] theorem b_addF (n : Nat) (y : PV) : binP h .add (.ref n) y = (cellL h[n]?).bind fun xs => (ownL h y).bind fun ys => if xs.length + ys.length ≤ 16777216 then some (.new (.lst (xs ++ ys))) else none := by cases y <;> rfl
@[simp] theorem b_mulR (xs : List PV) (k : Int) : binP h .mul (.rol xs) (.int k) = if lim63 k && decide (xs.length * k.toNat ≤ 16777216) then some (.new (.lst (List.replicate k.toNat xs).flatten)) else none := rfl
@[simp] theorem insOf_obj (c : Nat) (vs : List PV) : insOf G h (.obj c vs) = some (c, objFs G c vs) := rfl
@[simp] theorem insOf_int (i : Int) : insOf G h (.int i) = none := rfl
@[simp] theorem insOf_bl (i : Bool) : insOf G h (.bl i) = none := rfl
@[simp] theorem insOf_str (i : Str) : insOf G h (.str i) = none := rfl
@[simp] theorem insOf_non : insOf G h .non = none := rfl
@[simp] theorem insOf_tup (xs : List PV) : insOf G h (.tup xs) = none := rfl
@[simp] theorem insOf_rol (xs : List PV) : insOf G h (.rol xs) = none := rfl
/-- comparisons of what is no object -/
@[simp] theorem notV_bl (b : Bool) (s : SH) : notV (.bl b) s = .ok (.bl (!b)) s := rfl
@[simp] theorem cmpV_int (o : CmpO) (i : Int) (y : PV) : cmpV G call o (.int i) y s = liftO ((cmpP s o (.int i) y).map .bl) s 17 := rfl
@[simp] theorem cmpV_bl (o : CmpO) (i : Bool) (y : PV) : cmpV G call o (.bl i) y s = liftO ((cmpP s o (.bl i) y).map .bl) s 17 := rfl
@[simp] theorem cmpV_str (o : CmpO) (i : Str) (y : PV) : cmpV G call o (.str i) y s = liftO ((cmpP s o (.str i) y).map .bl) s 17 := rfl
@[simp] theorem cmpV_non (o : CmpO) (y : PV) : cmpV G call o .non y s = liftO ((cmpP s o .non y).map .bl) s 17 := rfl
@[simp] theorem cmpV_tup (o : CmpO) (xs : List PV) (y : PV) : cmpV G call o (.tup xs) y s = liftO ((cmpP s o (.tup xs) y).map .bl) s 17 := rfl
@[simp] theorem cmpV_rol (o : CmpO) (xs : List PV) (y : PV) : cmpV G call o (.rol xs) y s = liftO ((cmpP s o (.rol xs) y).map .bl) s 17 := rfl
@[simp] theorem cmpP_eq (x y : PV) : cmpP h .eq x y = eqP h x y := rfl
@[simp] theorem cmpP_ne (x y : PV) : cmpP h .ne x y = (eqP h x y).map (!·) := rfl
@[simp] theorem cmpP_lt (i j : Int) : cmpP h .lt (.int i) (.int j) = some (decide (i < j)) := rfl
@[simp] theorem cmpP_le (i j : Int) : cmpP h .le (.int i) (.int j) = some (decide (i ≤ j)) := rfl
@[simp] theorem cmpP_gt (i j : Int) : cmpP h .gt (.int i) (.int j) = some (decide (j < i)) := rfl
@[simp] theorem cmpP_ge (i j : Int) : cmpP h .ge (.int i) (.int j) = some (decide (j ≤ i)) := rfl
@[simp] theorem cmpP_is (x : PV) : cmpP h .is_ x .non = some x.isN := rfl
@[simp] theorem cmpP_isnot (x : PV) : cmpP h .isnot x .non = some (!x.isN) := rfl
@[simp] theorem eqP_int (i j : Int) : eqP h (.int i) (.int j) = some (i == j) := rfl
@[simp] theorem eqP_bl (i j : Bool) : eqP h (.bl i) (.bl j) = some (i == j) := rfl
@[simp] theorem isN_int (i : Int) : (PV.int i).isN = false := rfl
@[simp] theorem isN_bl (i : Bool) : (PV.bl i).isN = false := rfl
@[simp] theorem isN_tup (i : List PV) : (PV.tup i).isN = false := rfl
@[simp] theorem isN_non : PV.non.isN = true := rfl
@[simp] theorem asI_int (i : Int) : asI (.int i) = some i := rfl
@[simp] theorem srcOf_tup (xs : List PV) : srcOf h (.tup xs) = some (.items xs) := rfl
@[simp] theorem srcOf_rol (xs : List PV) : srcOf h (.rol xs) = some (.items xs) := rfl
@[simp] theorem srcOf_scr (xs : List PV) : srcOf h (.scr xs) = some (.items xs) := rfl
@[simp] theorem srcOf_ref (n : Nat) : srcOf h (.ref n) = (cellL h[n]?).map fun _ => .list n := by
  simp only [srcOf, cellL]
  cases h[n]? with
  | none => rfl
  | some c => cases c <;> rfl
@[simp] theorem zipOf_tup (xs ys : List PV) : zipOf h (.tup xs) (.tup ys) = some (.zip (.items xs) (.items ys)) := rfl
@[simp] theorem zipOf_rol (xs ys : List PV) : zipOf h (.rol xs) (.rol ys) = some (.zip (.items xs) (.items ys)) := rfl
@[simp] theorem enumOf_rol (xs : List PV) : enumOf h (.rol xs) = some (.enum (.items xs)) := rfl
@[simp] theorem rangeOf_1 (j : Int) : rangeOf [.int j] = if lim63 j then some (.items (upTo 0 j.toNat)) else none := rfl
@[simp] theorem rangeOf_2 (i j : Int) : rangeOf [.int i, .int j] = if lim63 i && lim63 j then some (.items (upTo i (j - i).toNat)) else none := rfl
@[simp] theorem size_items (xs : List PV) : Src.size h (.items xs) = xs.length := rfl
@[simp] theorem size_list (n : Nat) : Src.size h (.list n) = ((cellL h[n]?).map List.length).getD 0 := by
  simp only [Src.size, cellL]
  cases h[n]? with
  | none => rfl
  | some c => cases c <;> rfl
@[simp] theorem upTo_length (lo : Int) (n : Nat) : (upTo lo n).length = n := by simp [upTo]
@[simp] theorem setItem_ref (n : Nat) (i : Int) (v : PV) : setItem s (.ref n) (.int i) v = (cellL s[n]?).bind fun xs => (ixN xs.length i).map fun j => .wr n (.lst (xs.set j v)) .non := by
  simp only [setItem, cellL]
  cases s[n]? with
  | none => rfl
  | some c => cases c <;> rfl
@[simp] theorem slice_tup (z : Bool) (xs : List PV) (l u : Option Int) : sliceV z (.tup xs) l u s = .ok (.tup (cutL xs l u)) s := rfl
@[simp] theorem slice_rol (z : Bool) (xs : List PV) (l u : Option Int) : sliceV z (.rol xs) l u s = apE z (.new (.lst (cutL xs l u))) s := rfl
@[simp] theorem slice_scr (z : Bool) (xs : List PV) (l u : Option Int) : sliceV z (.scr xs) l u s = apE z (.new (.lst (cutL xs l u))) s := rfl
@[simp] theorem isTys_nil (v : PV) : isTys h v [] = some false := rfl
@[simp] theorem isTys_cons (v : PV) (t : Ty) (ts : List Ty) : isTys h v (t :: ts) = (isTy h t v).bind fun b => if b then some true else isTys h v ts := by
  simp only [isTys]
  cases isTy h t v with
  | none => rfl
  | some b => cases b <;> rfl
@[simp] theorem turnC_eq (elt : IE) (t : Tg) (tst : IT) (σ : Sl) (v : PV) : turnC G call elt t tst σ v s = (match asg G call t v σ s with
  | .next σ' s => (evT G call tst σ' s).bind fun k s => if k then (ev G call elt σ' s).bind fun y s => .ok (some y) s else .ok none s
  | _ => .bad 43) := rfl
@[simp] theorem turnF_eq (t : Tg) (b : Ss) (σ : Sl) (v : PV) : turnF G call t b v σ s = (asg G call t v σ s).andThen fun σ s => exs G call b σ s := rfl
end
/-! ### indices -/
theorem ixN_nat {n k : Nat} (h : k < n) : ixN n (k : Int) = some k := by
  unfold ixN
  rw [if_pos (by omega), if_pos (by omega)]; rfl
@[simp] theorem ixN_zero {n : Nat} : ixN (n + 1) 0 = some 0 := by
  unfold ixN
  rw [if_pos (by omega), if_pos (by omega)]; rfl
@[simp] theorem ixN_one {n : Nat} : ixN (n + 1 + 1) 1 = some 1 := by
  unfold ixN
  rw [if_pos (by omega), if_pos (by omega)]; rfl
@[simp] theorem ixN_last {n : Nat} : ixN (n + 1) (-1) = some n := by
  unfold ixN
  rw [if_neg (by omega), if_pos (by omega)]
  congr 1; omega
@[simp] theorem lim63_ok {i : Int} (h0 : 0 ≤ i) (h1 : i < 4611686018427387904) : lim63 i = true := by
  rw [lim63_iff]
  omega
theorem log2_lt {n : Nat} {k : Nat} (h : n < 2 ^ (k + 1)) : n.log2 < k + 1 := by
  by_cases h0 : n = 0
  · subst h0; simp
  · exact (Nat.log2_lt h0).mpr h
theorem log2_9000 {n : Nat} (h : n < 2 ^ 200) : n.log2 < 9000 := Nat.lt_of_lt_of_le (log2_lt (k := 199) h) (by decide)
@[simp] theorem log2_lit {n : Nat} (h : n < 2 ^ 64) : n.log2 < 9000 := log2_9000 (Nat.lt_of_lt_of_le h (Nat.pow_le_pow_right (by decide) (by decide)))
/-! ### pure values -/
@[simp] theorem pureB_int (i : Int) : (PV.int i).pureB = true := rfl
@[simp] theorem pureB_bl (i : Bool) : (PV.bl i).pureB = true := rfl
@[simp] theorem pureB_str (i : Str) : (PV.str i).pureB = true := rfl
@[simp] theorem pureB_non : PV.non.pureB = true := rfl
@[simp] theorem pureB_tup (xs : List PV) : (PV.tup xs).pureB = PV.pureL xs := rfl
@[simp] theorem pureB_rol (xs : List PV) : (PV.rol xs).pureB = PV.pureL xs := rfl
@[simp] theorem pureB_scr (xs : List PV) : (PV.scr xs).pureB = PV.pureL xs := rfl
@[simp] theorem pureB_obj (c : Nat) (xs : List PV) : (PV.obj c xs).pureB = PV.pureL xs := rfl
@[simp] theorem pureB_ref (n : Nat) : (PV.ref n).pureB = false := rfl
@[simp] theorem pureL_nil : PV.pureL [] = true := rfl
@[simp] theorem pureL_cons (x : PV) (xs : List PV) : PV.pureL (x :: xs) = (x.pureB && PV.pureL xs) := rfl
theorem pureL_iff : ∀ {xs : List PV}, PV.pureL xs = true ↔ ∀ x ∈ xs, x.pureB = true
  | [] => by simp
  | x :: xs => by simp [pureL_iff (xs := xs)]
@[simp] theorem pureL_app (xs ys : List PV) : PV.pureL (xs ++ ys) = (PV.pureL xs && PV.pureL ys) := by
  induction xs with
  | nil => simp
  | cons x xs ih => simp [ih, Bool.and_assoc]
theorem pureL_map {X : Type} {f : X → PV} {xs : List X} (h : ∀ x ∈ xs, (f x).pureB = true) : PV.pureL (xs.map f) = true := by
  rw [pureL_iff]
  intro y hy
  obtain ⟨x, hx, rfl⟩ := List.mem_map.mp hy
  exact h x hx
@[simp] theorem nrB_int (i : Int) : (PV.int i).nrB = true := rfl
@[simp] theorem nrB_bl (i : Bool) : (PV.bl i).nrB = true := rfl
@[simp] theorem nrB_str (i : Str) : (PV.str i).nrB = true := rfl
@[simp] theorem nrB_non : PV.non.nrB = true := rfl
@[simp] theorem nrB_tup (xs : List PV) : (PV.tup xs).nrB = PV.nrL xs := rfl
@[simp] theorem nrB_rol (xs : List PV) : (PV.rol xs).nrB = false := rfl
@[simp] theorem nrB_obj (c : Nat) (xs : List PV) : (PV.obj c xs).nrB = PV.nrL xs := rfl
@[simp] theorem nrL_nil : PV.nrL [] = true := rfl
@[simp] theorem nrL_cons (x : PV) (xs : List PV) : PV.nrL (x :: xs) = (x.nrB && PV.nrL xs) := rfl
theorem nrL_map {X : Type} {f : X → PV} : ∀ {xs : List X}, (∀ x ∈ xs, (f x).nrB = true) → PV.nrL (xs.map f) = true
  | [], _ => rfl
  | x :: xs, h => by
    simp only [List.map_cons, nrL_cons, h x (List.mem_cons_self ..), Bool.true_and]
    exact nrL_map fun y hy => h y (List.mem_cons_of_mem _ hy)
theorem fzP {s : SH} {ok : Nat → Bool} {v : PV} (h : v.pureB = true) : ∀ d, fzV s ok d v = some v
  | 0 => by simp only [fzV, h, if_true]
  | d + 1 => by
    unfold fzV
    rw [if_pos h]
theorem fzLP {s : SH} {ok : Nat → Bool} {d : Nat} : ∀ {vs : List PV}, PV.pureL vs = true → vs.mapM (fzV s ok d) = some vs
  | [], _ => rfl
  | v :: vs, h => by
    simp only [PV.pureL, Bool.and_eq_true] at h
    rw [List.mapM_cons, fzP h.1, fzLP h.2]; rfl
/-! ### calls -/
/-- a list of a heap as it is given back -/
theorem fz_ref {s : SH} {ok : Nat → Bool} {d n : Nat} {xs : List PV} (hn : s[n]? = some (.lst xs)) (ho : ok n = true) (hp : PV.pureL xs = true) : fzV s ok (d + 1) (.ref n) = some (.rol xs) := by
  unfold fzV
  rw [if_neg (by simp)]
  simp only [ho, if_true, hn, fzLP hp]
  rfl
theorem mapM_cons_some' {α β : Type} {f : α → Option β} {x : α} {xs : List α} {ys : List β} (h : (x :: xs).mapM f = some ys) : ∃ y zs, f x = some y ∧ xs.mapM f = some zs ∧ ys = y :: zs := by
  rw [List.mapM_cons] at h
  cases e : f x with
  | none => rw [e] at h; cases h
  | some y =>
    rw [e] at h
    cases e2 : xs.mapM f with
    | none => rw [e2] at h; cases h
    | some zs => rw [e2] at h; cases h; exact ⟨y, zs, rfl, rfl, rfl⟩
theorem nr_of_fz {s : SH} {ok : Nat → Bool} : ∀ (d : Nat) (v' v : PV), fzV s ok d v' = some v → v.nrB = true → nrV s d v' = true
  | 0, v', v, h, hn => by
    unfold fzV at h
    split at h
    · rename_i hp
      cases h
      unfold nrV
      rw [hp, hn]; rfl
    · cases h
  | d + 1, v', v, h, hn => by
    have key : ∀ xs ys : List PV, xs.mapM (fzV s ok d) = some ys → PV.nrL ys = true → xs.all (nrV s d) = true := fun xs => by
      induction xs with
      | nil => intro ys _ _; rfl
      | cons x xs ih =>
        intro ys e hy
        obtain ⟨y, zs, e1, e2, rfl⟩ := mapM_cons_some' e
        simp only [nrL_cons, Bool.and_eq_true] at hy
        simp only [List.all_cons, Bool.and_eq_true]
        exact ⟨nr_of_fz d x y e1 hy.1, ih zs e2 hy.2⟩
    unfold fzV at h
    unfold nrV
    by_cases hp : v'.pureB = true
    · rw [if_pos hp] at h ⊢
      cases h; exact hn
    · rw [if_neg hp] at h ⊢
      cases v' with
      | ref n =>
        simp only at h
        split at h
        · split at h
          · obtain ⟨ys, e1, rfl⟩ := Option.map_eq_some_iff.mp h
            simp at hn
          · cases h
        · cases h
      | tup xs =>
        obtain ⟨ys, e1, rfl⟩ := Option.map_eq_some_iff.mp h
        exact key xs ys e1 hn
      | rol xs =>
        obtain ⟨ys, e1, rfl⟩ := Option.map_eq_some_iff.mp h
        simp at hn
      | obj c xs =>
        obtain ⟨ys, e1, rfl⟩ := Option.map_eq_some_iff.mp h
        exact key xs ys e1 hn
      | _ => cases h
section
variable {G : Gs} {d f : Nat} {F : FnI} {vs : List PV} {s s3 : SH} {v w : PV}
theorem run_ret {call : Nat → List PV → SH → R PV} (hF : G.fns[f]? = some F) (hl : vs.length = F.np) (h : exs G call F.body (vs.map some ++ List.replicate (F.ns - F.np) none) s = .ret v s3) : runF G call f vs s = .ok v s3 := by
  unfold runF
  simp only [hF, bindA, hl, if_true, h]
theorem run_next {call : Nat → List PV → SH → R PV} {σ : Sl} (hF : G.fns[f]? = some F) (hl : vs.length = F.np) (h : exs G call F.body (vs.map some ++ List.replicate (F.ns - F.np) none) s = .next σ s3) : runF G call f vs s = .ok .non s3 := by
  unfold runF
  simp only [hF, bindA, hl, if_true, h]
/-- a call of values that stay as they are -/
theorem call_pure (hF : G.fns[f]? = some F) (hm : F.mu = false) (hfr : F.fr = true) (hp : PV.pureL vs = true) (hl : vs.length = F.np)
    (h : exs G (callF G d) F.body (vs.map some ++ List.replicate (F.ns - F.np) none) [] = .ret v s3) (hv : fzV s3 (fun i => decide (0 ≤ i)) 16 v = some w) : callF G (d + 1) f vs s = .ok w s := by
  show apart G (runF G (callF G d)) f vs s = _
  unfold apart
  simp only [hF, hm, Bool.false_eq_true, if_false, fzLP hp, run_ret hF hl h, backV, hp, Bool.not_true, Bool.false_and, hfr, if_true, hv, liftO]
/-- the same where lists of the caller's are handed over -/
theorem call_frz {us : List PV} (hF : G.fns[f]? = some F) (hm : F.mu = false) (hu : us.mapM (fzV s (fun _ => true) 16) = some vs) (hfr : F.fr = true) (hv : v.nrB = true) (hvp : v.pureB = true) (h : ∀ s, callF G (d + 1) f vs s = .ok v s) (hp : PV.pureL vs = true) :
    callF G (d + 1) f us s = .ok v s := by
  have h0 : apart G (runF G (callF G d)) f vs [] = .ok v [] := h []
  show apart G (runF G (callF G d)) f us s = _
  unfold apart at h0 ⊢
  simp only [hF, hm, Bool.false_eq_true, if_false, fzLP hp, hu] at h0 ⊢
  cases e : runF G (callF G d) f vs [] with
  | bad w => rw [e] at h0; cases h0
  | ok v' s3 =>
    rw [e] at h0
    simp only [backV, hp, Bool.not_true, Bool.false_and, hfr, if_true, Bool.false_eq_true, if_false] at h0 ⊢
    cases e2 : fzV s3 (fun i => decide (0 ≤ i)) 16 v' with
    | none => rw [e2] at h0; cases h0
    | some w =>
      rw [e2] at h0
      simp only [liftO, R.ok.injEq] at h0
      obtain ⟨rfl, _⟩ := h0
      rw [nr_of_fz 16 v' w e2 hv]
      simp only [Bool.not_true, Bool.and_false, Bool.false_eq_true, if_false, liftO]
/-- the heap of the caller does not matter -/
theorem call_any (hF : G.fns[f]? = some F) (hm : F.mu = false) (hfr : F.fr = true) (hp : PV.pureL vs = true) (h : callF G (d + 1) f vs [] = .ok v []) : callF G (d + 1) f vs s = .ok v s := by
  have h0 : apart G (runF G (callF G d)) f vs [] = .ok v [] := h
  show apart G (runF G (callF G d)) f vs s = _
  unfold apart at h0 ⊢
  simp only [hF, hm, Bool.false_eq_true, if_false, fzLP hp] at h0 ⊢
  cases e : runF G (callF G d) f vs [] with
  | bad w => rw [e] at h0; cases h0
  | ok v' s3 =>
    rw [e] at h0
    simp only [backV, hp, Bool.not_true, Bool.false_and, hfr, if_true, Bool.false_eq_true, if_false] at h0 ⊢
    cases e2 : fzV s3 (fun i => decide (0 ≤ i)) 16 v' with
    | none => rw [e2] at h0; cases h0
    | some w =>
      rw [e2] at h0
      simp only [liftO, R.ok.injEq] at h0
      obtain ⟨rfl, _⟩ := h0
      rfl
/-- lists of the caller's beside the one that is written -/
theorem call_muF {n : Nat} {c c3 : Cell} {us ws : List PV} (hF : G.fns[f]? = some F) (hm : F.mu = true) (hfr : F.fr = true) (hn : s[n]? = some c) (hc : c.pureB = true) (hw : us.mapM (fzV s (fun i => decide (i ≠ n)) 16) = some ws) (hl : ws.length + 1 = F.np)
    (h : exs G (callF G d) F.body (some (.ref 0) :: (ws.map some ++ List.replicate (F.ns - F.np) none)) [c] = .ret v s3) (h3 : s3[0]? = some c3) (hc3 : c3.pureB = true) (hc4 : PV.nrL c3.vals = true) (hv : fzV s3 (fun i => decide (1 ≤ i)) 16 v = some w) (hvn : nrV s3 16 v = true) :
    callF G (d + 1) f (.ref n :: us) s = .ok w (s.set n c3) := by
  show apart G (runF G (callF G d)) f (.ref n :: us) s = _
  have hu : ∀ c : Cell, c.upv c.vals = c := fun c => by
    cases c with
    | lst xs => rfl
    | ins k fs =>
      have ez : ∀ l : List (Nat × PV), (l.map (·.1)).zip (l.map (·.2)) = l := fun l => by
        induction l with
        | nil => rfl
        | cons a l ih => simp only [List.map_cons, List.zip_cons_cons, ih]
      show Cell.ins k ((fs.map (·.1)).zip (fs.map (·.2))) = _
      rw [ez]
  have hc3' : PV.pureL c3.vals = true := hc3
  have hc5 : c3.vals.all (nrV s3 16) = true := by
    rw [List.all_eq_true]
    intro y hy
    have p1 := pureL_iff.mp hc3' y hy
    have p2 : ∀ (l : List PV), PV.nrL l = true → ∀ y ∈ l, y.nrB = true := fun l => by
      induction l with
      | nil => intro _ y hy; cases hy
      | cons a l ih =>
        intro hl y hy
        simp only [nrL_cons, Bool.and_eq_true] at hl
        rcases List.mem_cons.mp hy with rfl | hy
        · exact hl.1
        · exact ih hl.2 y hy
    unfold nrV
    rw [if_pos p1]; exact p2 _ hc4 y hy
  have hr : runF G (callF G d) f (.ref 0 :: ws) [c] = .ok v s3 := run_ret hF (by simp [hl]) h
  unfold apart
  simp only [hF, hm, if_true, hn, hc, hw, hr, h3, hc5, Bool.not_true, Bool.and_false, Bool.false_eq_true, if_false, fzLP hc3', backV, hfr, hv, hvn, liftO, hu]
theorem nrV_pure {s : SH} {v : PV} (hp : v.pureB = true) (hn : v.nrB = true) : ∀ d, nrV s d v = true
  | 0 => by unfold nrV; rw [hp, hn]; rfl
  | d + 1 => by unfold nrV; rw [if_pos hp]; exact hn
/-- a call that writes the list that it is handed first -/
theorem call_mu {n : Nat} {c c3 : Cell} {us : List PV} (hF : G.fns[f]? = some F) (hm : F.mu = true) (hfr : F.fr = true) (hn : s[n]? = some c) (hc : c.pureB = true) (hp : PV.pureL us = true) (hl : us.length + 1 = F.np)
    (h : exs G (callF G d) F.body (some (.ref 0) :: (us.map some ++ List.replicate (F.ns - F.np) none)) [c] = .ret v s3) (h3 : s3[0]? = some c3) (hc3 : c3.pureB = true) (hv : fzV s3 (fun i => decide (1 ≤ i)) 16 v = some w) :
    callF G (d + 1) f (.ref n :: us) s = .ok w (s.set n c3) := by
  show apart G (runF G (callF G d)) f (.ref n :: us) s = _
  have hu : ∀ c : Cell, c.upv c.vals = c := fun c => by
    cases c with
    | lst xs => rfl
    | ins k fs =>
      have ez : ∀ l : List (Nat × PV), (l.map (·.1)).zip (l.map (·.2)) = l := fun l => by
        induction l with
        | nil => rfl
        | cons a l ih => simp only [List.map_cons, List.zip_cons_cons, ih]
      show Cell.ins k ((fs.map (·.1)).zip (fs.map (·.2))) = _
      rw [ez]
  have hc3' : PV.pureL c3.vals = true := hc3
  have hr : runF G (callF G d) f (.ref 0 :: us) [c] = .ok v s3 := run_ret hF (by simp [hl]) h
  unfold apart
  simp only [hF, hm, if_true, hn, hc, fzLP hp, hr, h3, hp, Bool.not_true, Bool.false_and, Bool.false_eq_true, if_false, fzLP hc3', backV, hfr, hv, liftO, hu]
/-- the same without a result -/
theorem call_muN {σ : Sl} {n : Nat} {c c3 : Cell} {us : List PV} (hF : G.fns[f]? = some F) (hm : F.mu = true) (hfr : F.fr = true) (hn : s[n]? = some c) (hc : c.pureB = true) (hp : PV.pureL us = true) (hl : us.length + 1 = F.np)
    (h : exs G (callF G d) F.body (some (.ref 0) :: (us.map some ++ List.replicate (F.ns - F.np) none)) [c] = .next σ s3) (h3 : s3[0]? = some c3) (hc3 : c3.pureB = true) :
    callF G (d + 1) f (.ref n :: us) s = .ok .non (s.set n c3) := by
  show apart G (runF G (callF G d)) f (.ref n :: us) s = _
  have hu : ∀ c : Cell, c.upv c.vals = c := fun c => by
    cases c with
    | lst xs => rfl
    | ins k fs =>
      have ez : ∀ l : List (Nat × PV), (l.map (·.1)).zip (l.map (·.2)) = l := fun l => by
        induction l with
        | nil => rfl
        | cons a l ih => simp only [List.map_cons, List.zip_cons_cons, ih]
      show Cell.ins k ((fs.map (·.1)).zip (fs.map (·.2))) = _
      rw [ez]
  have hc3' : PV.pureL c3.vals = true := hc3
  have hr : runF G (callF G d) f (.ref 0 :: us) [c] = .ok .non s3 := run_next hF (by simp [hl]) h
  unfold apart
  simp only [hF, hm, if_true, hn, hc, fzLP hp, hr, h3, hp, Bool.not_true, Bool.false_and, Bool.false_eq_true, if_false, fzLP hc3', backV, hfr, fzP pureB_non, liftO, hu]
/-- a call that gives back a list that is written -/
theorem call_new {j : Nat} {xs : List PV} (hF : G.fns[f]? = some F) (hm : F.mu = false) (hfr : F.fr = false) (hp : PV.pureL vs = true) (hl : vs.length = F.np)
    (h : exs G (callF G d) F.body (vs.map some ++ List.replicate (F.ns - F.np) none) [] = .ret (.ref j) s3) (hj : s3[j]? = some (.lst xs)) (hx : PV.pureL xs = true) : callF G (d + 1) f vs s = .ok (.ref s.length) (s ++ [.lst xs]) := by
  show apart G (runF G (callF G d)) f vs s = _
  unfold apart
  simp only [hF, hm, Bool.false_eq_true, if_false, fzLP hp, run_ret hF hl h, backV, hp, Bool.not_true, Bool.false_and, hfr, Nat.zero_le, if_true, hj, fzLP hx]
/-- a new object of values that stay as they are -/
theorem mk_pure {c : Nat} {C : ClI} {fs : List (Nat × PV)} {perm : List Nat} {full : List PV} {call : Nat → List PV → SH → R PV} (hC : G.cls[c]? = some C) (hp : PV.pureL vs = true) (ha : padA G C.init (vs.length + 1) (ordL perm (.ref 0 :: vs)) = some full)
    (h : call C.init full [.ins c []] = .ok .non [.ins c fs]) (hf : fs.map (·.1) = C.flds) (hq : PV.pureL (fs.map (·.2)) = true) : mkV G call c vs perm s = .ok (.obj c (fs.map (·.2))) s := by
  unfold mkV
  simp only [hC, fzLP hp, hp, ha, liftO, bind_ok, h, sealO, hf, hq, Bool.not_true, Bool.false_eq_true, false_implies, and_self, if_true]
theorem mk_frz {c : Nat} {C : ClI} {us : List PV} {ws : List PV} {perm : List Nat} {call : Nat → List PV → SH → R PV} (hC : G.cls[c]? = some C) (hu : us.mapM (fzV s (fun _ => true) 16) = some vs) (hp : PV.pureL vs = true) (h : ∀ s, mkV G call c vs perm s = .ok (.obj c ws) s) (hw : PV.nrL ws = true) :
    mkV G call c us perm s = .ok (.obj c ws) s := by
  have h0 := h []
  unfold mkV at h0 ⊢
  simp only [hC, fzLP hp, hu] at h0 ⊢
  cases e : padA G C.init (vs.length + 1) (ordL perm (.ref 0 :: vs)) with
  | none => rw [e] at h0; cases h0
  | some full =>
    rw [e] at h0
    simp only [liftO, bind_ok] at h0 ⊢
    cases e2 : call C.init full [.ins c []] with
    | bad w => rw [e2] at h0; cases h0
    | ok v s' =>
      rw [e2] at h0
      simp only [bind_ok] at h0 ⊢
      cases v with
      | non =>
        simp only [sealO] at h0 ⊢
        split at h0
        · rename_i c' fs
          split at h0
          · rename_i q
            simp only [R.ok.injEq, PV.obj.injEq] at h0
            obtain ⟨⟨_, rfl⟩, _⟩ := h0
            rw [if_pos ⟨q.1, q.2.1, q.2.2.1, fun _ => hw⟩]
          · cases h0
        · cases h0
      | _ => cases h0
end
end CS
end CSSimp_

section CSLoops_
set_option maxRecDepth 100000
namespace CS
open PySem (Str)
/-! ### loops -/
theorem forS_congr {a b : Src} {body : PV → Sl → SH → Fl} (h : ∀ s i, a.at s i = b.at s i) : ∀ (k i : Nat) (σ : Sl) (s : SH), forS a body k i σ s = forS b body k i σ s
  | 0, _, _, _ => rfl
  | k + 1, i, σ, s => by
    simp only [forS, h s i]
    cases b.at s i with
    | none => rfl
    | some o =>
      cases o with
      | none => rfl
      | some v =>
        simp only
        cases body v σ s with
        | next σ' s' => exact forS_congr h k (i + 1) σ' s'
        | cont σ' s' => exact forS_congr h k (i + 1) σ' s'
        | _ => rfl
theorem compS_congr {a b : Src} {turn : PV → SH → R (Option PV)} (h : ∀ s i, a.at s i = b.at s i) : ∀ (k i : Nat) (acc : List PV) (s : SH), compS a turn k i acc s = compS b turn k i acc s
  | 0, _, _, _ => rfl
  | k + 1, i, acc, s => by
    simp only [compS, h s i]
    cases b.at s i with
    | none => rfl
    | some o =>
      cases o with
      | none => rfl
      | some v =>
        simp only
        cases turn v s with
        | bad w => rfl
        | ok o s' =>
          cases o with
          | none => exact compS_congr h k (i + 1) acc s'
          | some y =>
            simp only
            split
            · exact compS_congr h k (i + 1) _ s'
            · rfl
def tup2 (x y : PV) : PV := .tup [x, y]
theorem zip_at (xs ys : List PV) (s : SH) (i : Nat) : (Src.zip (.items xs) (.items ys)).at s i = (Src.items (List.zipWith tup2 xs ys)).at s i := by
  simp only [Src.at, List.getElem?_zipWith]
  cases xs[i]? <;> cases ys[i]? <;> rfl
theorem enum_at (xs : List PV) (s : SH) (i : Nat) : (Src.enum (.items xs)).at s i = (Src.items (xs.zipIdx.map fun p => .tup [.int p.2, p.1])).at s i := by
  simp only [Src.at, List.getElem?_map, List.getElem?_zipIdx, Nat.zero_add]
  cases xs[i]? with
  | none => rfl
  | some v => simp
@[simp] theorem forS_zip (xs ys : List PV) (body : PV → Sl → SH → Fl) (k i : Nat) (σ : Sl) (s : SH) : forS (.zip (.items xs) (.items ys)) body k i σ s = forS (.items (List.zipWith tup2 xs ys)) body k i σ s := forS_congr (zip_at xs ys) k i σ s
@[simp] theorem compS_zip (xs ys : List PV) (turn : PV → SH → R (Option PV)) (k i : Nat) (acc : List PV) (s : SH) : compS (.zip (.items xs) (.items ys)) turn k i acc s = compS (.items (List.zipWith tup2 xs ys)) turn k i acc s := compS_congr (zip_at xs ys) k i acc s
@[simp] theorem forS_enum (xs : List PV) (body : PV → Sl → SH → Fl) (k i : Nat) (σ : Sl) (s : SH) : forS (.enum (.items xs)) body k i σ s = forS (.items (xs.zipIdx.map fun p => .tup [.int p.2, p.1])) body k i σ s := forS_congr (enum_at xs) k i σ s
@[simp] theorem compS_enum (xs : List PV) (turn : PV → SH → R (Option PV)) (k i : Nat) (acc : List PV) (s : SH) : compS (.enum (.items xs)) turn k i acc s = compS (.items (xs.zipIdx.map fun p => .tup [.int p.2, p.1])) turn k i acc s := compS_congr (enum_at xs) k i acc s
@[simp] theorem size_zip (h : List Cell) (xs ys : List PV) : Src.size h (.zip (.items xs) (.items ys)) = (List.zipWith tup2 xs ys).length := by simp [Src.size]
@[simp] theorem size_enum (h : List Cell) (xs : List PV) : Src.size h (.enum (.items xs)) = (xs.zipIdx.map fun p => PV.tup [.int p.2, p.1]).length := by simp [Src.size]
/-- a loop whose turns all go on, by an invariant -/
theorem for_inv {X : Type} {g : X → PV} {body : PV → Sl → SH → Fl} {xs : List X} (I : List X → Sl → SH → Prop)
    (step : ∀ done x rest σ s, xs = done ++ x :: rest → I done σ s → ∃ σ' s', (body (g x) σ s = .next σ' s' ∨ body (g x) σ s = .cont σ' s') ∧ I (done ++ [x]) σ' s') :
    ∀ (rest done : List X) (k : Nat) (σ : Sl) (s : SH), xs = done ++ rest → I done σ s → rest.length < k → ∃ σ' s', forS (.items (xs.map g)) body k done.length σ s = .next σ' s' ∧ I xs σ' s'
  | [], done, 0, σ, s, e, i, hk => by simp at hk
  | [], done, k + 1, σ, s, e, i, hk => by
    refine ⟨σ, s, ?_, by rw [e, List.append_nil]; exact i⟩
    have : (Src.items (xs.map g)).at s done.length = some none := by
      simp only [Src.at, List.getElem?_map]
      rw [e, List.append_nil, List.getElem?_eq_none (Nat.le_refl _)]; rfl
    simp only [forS, this]
  | x :: rest, done, 0, σ, s, e, i, hk => by simp at hk
  | x :: rest, done, k + 1, σ, s, e, i, hk => by
    obtain ⟨σ', s', hb, i'⟩ := step done x rest σ s e i
    have hat : (Src.items (xs.map g)).at s done.length = some (some (g x)) := by
      simp only [Src.at, List.getElem?_map]
      rw [e]; simp
    have e2 : xs = (done ++ [x]) ++ rest := by rw [e]; simp
    obtain ⟨σ2, s2, h1, h2⟩ := for_inv I step rest (done ++ [x]) k σ' s' e2 i' (by simp at hk; omega)
    refine ⟨σ2, s2, ?_, h2⟩
    rw [← h1]
    simp only [forS, hat, List.length_append, List.length_singleton]
    rcases hb with hb | hb <;> rw [hb]
theorem for_items {X : Type} {g : X → PV} {body : PV → Sl → SH → Fl} {σ : Sl} {s : SH} (xs : List X) (I : List X → Sl → SH → Prop) (h0 : I [] σ s)
    (step : ∀ done x rest σ s, xs = done ++ x :: rest → I done σ s → ∃ σ' s', (body (g x) σ s = .next σ' s' ∨ body (g x) σ s = .cont σ' s') ∧ I (done ++ [x]) σ' s') :
    ∃ σ' s', forS (.items (xs.map g)) body (xs.length + 1) 0 σ s = .next σ' s' ∧ I xs σ' s' :=
  for_inv I step xs [] (xs.length + 1) σ s rfl h0 (by simp)
/-- the same by numbers alone -/
theorem for_range {body : PV → Sl → SH → Fl} {σ : Sl} {s : SH} (lo : Int) (n : Nat) (I : Nat → Sl → SH → Prop) (h0 : I 0 σ s)
    (step : ∀ i σ s, i < n → I i σ s → ∃ σ' s', (body (.int (lo + i)) σ s = .next σ' s' ∨ body (.int (lo + i)) σ s = .cont σ' s') ∧ I (i + 1) σ' s') :
    ∃ σ' s', forS (.items (upTo lo n)) body (n + 1) 0 σ s = .next σ' s' ∧ I n σ' s' := by
  have := for_items (g := fun (k : Nat) => PV.int (lo + (k : Int))) (body := body) (σ := σ) (s := s) (List.range n) (fun done σ s => I done.length σ s) h0 (fun done x rest σ s e i => by
    have hx : x = done.length := by
      have h1 : (List.range n)[done.length]? = some x := by rw [e]; simp
      rw [List.getElem?_range (by have := congrArg List.length e; simp at this; omega)] at h1
      exact (Option.some.inj h1).symm
    have hl : done.length < n := by have := congrArg List.length e; simp at this; omega
    obtain ⟨σ', s', h1, h2⟩ := step done.length σ s hl i
    refine ⟨σ', s', by rw [hx]; exact h1, by simpa using h2⟩)
  simpa [upTo] using this
/-- comprehensions: turns that leave the heap as it is -/
theorem comp_fm {X : Type} {g : X → PV} {f : X → Option PV} {turn : PV → SH → R (Option PV)} {s : SH} {xs : List X} (h : ∀ x ∈ xs, turn (g x) s = .ok (f x) s) :
    ∀ (rest done : List X) (k : Nat) (acc : List PV), xs = done ++ rest → acc.length + rest.length ≤ sizeL → rest.length < k → compS (.items (xs.map g)) turn k done.length acc s = .ok (acc ++ rest.filterMap f) s
  | [], done, 0, acc, e, hl, hk => by simp at hk
  | [], done, k + 1, acc, e, hl, hk => by
    have : (Src.items (xs.map g)).at s done.length = some none := by
      simp only [Src.at, List.getElem?_map]
      rw [e, List.append_nil, List.getElem?_eq_none (Nat.le_refl _)]; rfl
    simp [compS, this]
  | x :: rest, done, 0, acc, e, hl, hk => by simp at hk
  | x :: rest, done, k + 1, acc, e, hl, hk => by
    have hat : (Src.items (xs.map g)).at s done.length = some (some (g x)) := by
      simp only [Src.at, List.getElem?_map]
      rw [e]; simp
    have e2 : xs = (done ++ [x]) ++ rest := by rw [e]; simp
    have hx := h x (by rw [e]; simp)
    simp only [List.length_cons] at hl hk
    simp only [compS, hat, hx]
    cases hf : f x with
    | none =>
      simp only [List.filterMap_cons, hf]
      have := comp_fm h rest (done ++ [x]) k acc e2 (by omega) (by omega)
      simpa using this
    | some y =>
      simp only [List.filterMap_cons, hf]
      rw [if_pos (by omega)]
      have := comp_fm h rest (done ++ [x]) k (acc ++ [y]) e2 (by rw [List.length_append, List.length_singleton]; omega) (by omega)
      simpa using this
theorem comp_map {X : Type} {g f : X → PV} {turn : PV → SH → R (Option PV)} {s : SH} {xs : List X} (h : ∀ x ∈ xs, turn (g x) s = .ok (some (f x)) s) (hl : xs.length ≤ 16777216) :
    compS (.items (xs.map g)) turn (xs.length + 1) 0 [] s = .ok (xs.map f) s := by
  have := comp_fm (f := fun x => some (f x)) h xs [] (xs.length + 1) [] rfl (by rw [List.length_nil, Nat.zero_add]; exact hl) (by simp)
  simpa using this
theorem comp_filter {X : Type} {g : X → PV} {f : X → Option PV} {turn : PV → SH → R (Option PV)} {s : SH} {xs : List X} (h : ∀ x ∈ xs, turn (g x) s = .ok (f x) s) (hl : xs.length ≤ 16777216) :
    compS (.items (xs.map g)) turn (xs.length + 1) 0 [] s = .ok (xs.filterMap f) s := by
  have := comp_fm h xs [] (xs.length + 1) [] rfl (by rw [List.length_nil, Nat.zero_add]; exact hl) (by simp)
  simpa using this
/-- comprehensions over a heap that changes -/
theorem comp_inv {X : Type} {g : X → PV} {turn : PV → SH → R (Option PV)} {xs : List X} (I : List X → List PV → SH → Prop)
    (step : ∀ done x rest acc s, xs = done ++ x :: rest → I done acc s → ∃ o s', turn (g x) s = .ok o s' ∧ acc.length < 16777216 ∧ I (done ++ [x]) (acc ++ o.toList) s') :
    ∀ (rest done : List X) (k : Nat) (acc : List PV) (s : SH), xs = done ++ rest → I done acc s → rest.length < k → ∃ acc' s', compS (.items (xs.map g)) turn k done.length acc s = .ok acc' s' ∧ I xs acc' s'
  | [], done, 0, acc, s, e, i, hk => by simp at hk
  | [], done, k + 1, acc, s, e, i, hk => by
    refine ⟨acc, s, ?_, by rw [e, List.append_nil]; exact i⟩
    have : (Src.items (xs.map g)).at s done.length = some none := by
      simp only [Src.at, List.getElem?_map]
      rw [e, List.append_nil, List.getElem?_eq_none (Nat.le_refl _)]; rfl
    simp only [compS, this]
  | x :: rest, done, 0, acc, s, e, i, hk => by simp at hk
  | x :: rest, done, k + 1, acc, s, e, i, hk => by
    obtain ⟨o, s', hb, hl, i'⟩ := step done x rest acc s e i
    have hat : (Src.items (xs.map g)).at s done.length = some (some (g x)) := by
      simp only [Src.at, List.getElem?_map]
      rw [e]; simp
    have e2 : xs = (done ++ [x]) ++ rest := by rw [e]; simp
    obtain ⟨acc2, s2, h1, h2⟩ := comp_inv I step rest (done ++ [x]) k _ s' e2 i' (by simp at hk; omega)
    refine ⟨acc2, s2, ?_, h2⟩
    rw [← h1]
    simp only [compS, hat, List.length_append, List.length_singleton, hb]
    cases o with
    | none => simp
    | some y => simp only [if_pos (show acc.length < sizeL from hl), Option.toList_some]
theorem comp_items {X : Type} {g : X → PV} {turn : PV → SH → R (Option PV)} {s : SH} (xs : List X) (I : List X → List PV → SH → Prop) (h0 : I [] [] s)
    (step : ∀ done x rest acc s, xs = done ++ x :: rest → I done acc s → ∃ o s', turn (g x) s = .ok o s' ∧ acc.length < 16777216 ∧ I (done ++ [x]) (acc ++ o.toList) s') :
    ∃ acc' s', compS (.items (xs.map g)) turn (xs.length + 1) 0 [] s = .ok acc' s' ∧ I xs acc' s' :=
  comp_inv I step xs [] (xs.length + 1) [] s rfl h0 (by simp)
/-- a list of the heap that is only read -/
theorem comp_list {n : Nat} {xs : List PV} {turn : PV → SH → R (Option PV)} {s : SH} (hn : s[n]? = some (.lst xs)) (ht : ∀ x o s', x ∈ xs → turn x s = .ok o s' → s' = s) : ∀ (k i : Nat) (acc : List PV), compS (.list n) turn k i acc s = compS (.items xs) turn k i acc s
  | 0, _, _ => rfl
  | k + 1, i, acc => by
    have e : (Src.list n).at s i = (Src.items xs).at s i := by simp only [Src.at, hn]
    simp only [compS, e]
    cases h : (Src.items xs).at s i with
    | none => rfl
    | some o =>
      cases o with
      | none => rfl
      | some v =>
        simp only
        have hv : v ∈ xs := by
          have : xs[i]? = some v := Option.some.inj h
          exact List.mem_of_getElem? this
        cases ht' : turn v s with
        | bad w => rfl
        | ok o s' =>
          have := ht v o s' hv ht'
          subst this
          cases o with
          | none => exact comp_list hn ht k (i + 1) acc
          | some y =>
            simp only
            split
            · exact comp_list hn ht k (i + 1) _
            · rfl
/-- while, by a measure -/
theorem while_inv {test : Sl → SH → R Bool} {body : Sl → SH → Fl} (I : Nat → Sl → SH → Prop) (Q : Sl → SH → Prop)
    (step : ∀ n σ s, I n σ s → (∃ s', test σ s = .ok false s' ∧ Q σ s') ∨ ∃ s' σ' s'' n', test σ s = .ok true s' ∧ (body σ s' = .next σ' s'' ∨ body σ s' = .cont σ' s'') ∧ n' < n ∧ I n' σ' s'') :
    ∀ (k n : Nat) (σ : Sl) (s : SH), I n σ s → n < k → ∃ σ' s', whileS test body k σ s = .next σ' s' ∧ Q σ' s'
  | 0, n, σ, s, i, hk => by omega
  | k + 1, n, σ, s, i, hk => by
    rcases step n σ s i with ⟨s', h1, h2⟩ | ⟨s', σ', s'', n', h1, h2, h3, h4⟩
    · exact ⟨σ, s', by simp only [whileS, h1], h2⟩
    · obtain ⟨σ2, s2, h5, h6⟩ := while_inv I Q step k n' σ' s'' h4 (by omega)
      refine ⟨σ2, s2, ?_, h6⟩
      rw [← h5]
      simp only [whileS, h1]
      rcases h2 with h2 | h2 <;> rw [h2]
end CS
end CSLoops_

section CSLoopR_
set_option maxRecDepth 100000
namespace CS
open PySem (Str)
/-- a loop that may end by a return -/
theorem for_ret0 {X : Type} {g : X → PV} {body : PV → Sl → SH → Fl} {xs : List X} (I : List X → Sl → SH → Prop) (J : PV → SH → Prop)
    (step : ∀ done x rest σ s, xs = done ++ x :: rest → I done σ s → (∃ σ' s', (body (g x) σ s = .next σ' s' ∨ body (g x) σ s = .cont σ' s') ∧ I (done ++ [x]) σ' s') ∨ ∃ v s', body (g x) σ s = .ret v s' ∧ J v s') :
    ∀ (rest done : List X) (k : Nat) (σ : Sl) (s : SH), xs = done ++ rest → I done σ s → rest.length < k → (∃ σ' s', forS (.items (xs.map g)) body k done.length σ s = .next σ' s' ∧ I xs σ' s') ∨ ∃ v s', forS (.items (xs.map g)) body k done.length σ s = .ret v s' ∧ J v s'
  | [], done, 0, σ, s, e, i, hk => by simp at hk
  | [], done, k + 1, σ, s, e, i, hk => by
    refine .inl ⟨σ, s, ?_, by rw [e, List.append_nil]; exact i⟩
    have : (Src.items (xs.map g)).at s done.length = some none := by
      simp only [Src.at, List.getElem?_map]
      rw [e, List.append_nil, List.getElem?_eq_none (Nat.le_refl _)]; rfl
    simp only [forS, this]
  | x :: rest, done, 0, σ, s, e, i, hk => by simp at hk
  | x :: rest, done, k + 1, σ, s, e, i, hk => by
    have hat : (Src.items (xs.map g)).at s done.length = some (some (g x)) := by
      simp only [Src.at, List.getElem?_map]
      rw [e]; simp
    rcases step done x rest σ s e i with ⟨σ', s', hb, i'⟩ | ⟨v, s', hb, j⟩
    · have e2 : xs = (done ++ [x]) ++ rest := by rw [e]; simp
      have h := for_ret0 I J step rest (done ++ [x]) k σ' s' e2 i' (by simp at hk; omega)
      have q : forS (.items (xs.map g)) body (k + 1) done.length σ s = forS (.items (xs.map g)) body k (done ++ [x]).length σ' s' := by
        simp only [forS, hat, List.length_append, List.length_singleton]
        rcases hb with hb | hb <;> rw [hb]
      rw [q]; exact h
    · refine .inr ⟨v, s', ?_, j⟩
      simp only [forS, hat, hb]
theorem for_ret {X : Type} {g : X → PV} {body : PV → Sl → SH → Fl} {σ : Sl} {s : SH} (xs : List X) (I : List X → Sl → SH → Prop) (J : PV → SH → Prop) (h0 : I [] σ s)
    (step : ∀ done x rest σ s, xs = done ++ x :: rest → I done σ s → (∃ σ' s', (body (g x) σ s = .next σ' s' ∨ body (g x) σ s = .cont σ' s') ∧ I (done ++ [x]) σ' s') ∨ ∃ v s', body (g x) σ s = .ret v s' ∧ J v s') :
    (∃ σ' s', forS (.items (xs.map g)) body (xs.length + 1) 0 σ s = .next σ' s' ∧ I xs σ' s') ∨ ∃ v s', forS (.items (xs.map g)) body (xs.length + 1) 0 σ s = .ret v s' ∧ J v s' :=
  for_ret0 I J step xs [] (xs.length + 1) σ s rfl h0 (by simp)
end CS
end CSLoopR_

section LKa_
set_option maxRecDepth 100000
set_option maxHeartbeats 0
namespace LK
open PySem (Str)
open CS
abbrev i_is_number : Nat := 0
abbrev i_pair_of : Nat := 1
abbrev i_tupled : Nat := 2
abbrev i_number_in : Nat := 3
abbrev i_joined : Nat := 4
abbrev i_in_both : Nat := 5
abbrev i_left_over : Nat := 6
abbrev i_Row___init__ : Nat := 7
abbrev i_Row_spans : Nat := 8
abbrev i_Row_text : Nat := 9
abbrev i_Row___len__ : Nat := 10
abbrev i_Row___getitem__ : Nat := 11
abbrev i_Row___sub__ : Nat := 12
abbrev i_Row___rshift__ : Nat := 13
abbrev i_Row___eq__ : Nat := 14
abbrev i_is_good : Nat := 15
abbrev i_filled : Nat := 16
abbrev i_moved : Nat := 17
abbrev i_Step___init__ : Nat := 18
abbrev i_Step_of : Nat := 19
abbrev i_Step_kind : Nat := 20
abbrev i_Step_amounts : Nat := 21
abbrev i_Step_text : Nat := 22
abbrev i_Step___call__ : Nat := 23
abbrev i_Step___eq__ : Nat := 24
abbrev i_edges_of : Nat := 25
abbrev i__law_box : Nat := 26
abbrev i__law_take : Nat := 27
abbrev i__law_cells : Nat := 28
abbrev i__law_of : Nat := 29
abbrev i__law_same : Nat := 30
abbrev i__law_mixed : Nat := 31
abbrev i__law_pairs : Nat := 32
abbrev i__law_gathered : Nat := 33
abbrev i__law_met : Nat := 34
abbrev i__law_stage : Nat := 35
abbrev i__law_is_in : Nat := 36
abbrev i__law_by_hand_right : Nat := 37
abbrev i__law_right : Nat := 38
abbrev i_law : Nat := 39
abbrev a___eq__ : Nat := 0
abbrev a___or__ : Nat := 1
abbrev a___and__ : Nat := 2
abbrev a___sub__ : Nat := 3
abbrev a___rshift__ : Nat := 4
abbrev a___lshift__ : Nat := 5
abbrev a___mul__ : Nat := 6
abbrev a___call__ : Nat := 7
abbrev a___len__ : Nat := 8
abbrev a___getitem__ : Nat := 9
abbrev a___contains__ : Nat := 10
abbrev a_startswith : Nat := 11
abbrev a_append : Nat := 12
abbrev a_own_spans : Nat := 13
abbrev a_join : Nat := 14
abbrev a_spans : Nat := 15
abbrev a_own_kind : Nat := 16
abbrev a_own_amounts : Nat := 17
abbrev a_split : Nat := 18
abbrev a_kind : Nat := 19
abbrev a_amounts : Nat := 20
abbrev a_pop : Nat := 21
abbrev a_text : Nat := 22
abbrev a_of : Nat := 23
abbrev c_Row : Nat := 0
abbrev c_Step : Nat := 1
def B_is_number : Ss :=
  (.cons (.ret (.and_ (.prim true (.isi [.int]) (.cons (.v 0) .nil)) (.not_ (.prim true (.isi [.bool]) (.cons (.v 0) .nil))))) .nil)
def F_is_number : FnI := ⟨1, 1, [], false, true, [], B_is_number⟩
def B_pair_of : Ss :=
  (.cons (.ret (.prim true .tup (.cons (.prim true .ix (.cons (.v 0) (.cons (.c (.int (0))) .nil))) (.cons (.prim true .ix (.cons (.v 0) (.cons (.c (.int (1))) .nil))) .nil)))) .nil)
def F_pair_of : FnI := ⟨1, 1, [], false, true, [], B_pair_of⟩
def B_tupled : Ss :=
  (.cons (.ret (.ite (.e (.prim true (.isi [.list, .tuple]) (.cons (.v 0) .nil))) (.prim true .tuple (.cons (.comp true (.call i_tupled (.cons (.v 2) .nil) .nil []) [1, 2] (.name 2) (.val (.v 0)) .yes) .nil)) (.v 0))) .nil)
def F_tupled : FnI := ⟨1, 3, [], false, true, [], B_tupled⟩
def B_number_in : Ss :=
  (.cons (.asg (.name 1) (.ite (.e (.bm .starts (.v 0) (.cons (.c (.str "-")) .nil))) (.slice true (.v 0) (.some (.c (.int (1)))) .none) (.v 0)))
  (.cons (.if_ (.or_ (.c (.cmp .eq (.v 1) (.c (.str "")))) (.not_ (.e (.prim true .all (.cons (.comp true (.cmp .in_ (.v 4) (.c (.str "0123456789"))) [3, 4] (.name 4) (.val (.v 1)) .yes) .nil)))))
    (.cons (.ret (.c .non)) .nil) .nil)
  (.cons (.asg (.name 2) (.prim true .int (.cons (.v 0) .nil)))
  (.cons (.ret (.ite (.c (.cmp .eq (.prim true .str (.cons (.v 2) .nil)) (.v 0))) (.v 2) (.c .non))) .nil))))
def F_number_in : FnI := ⟨1, 5, [], false, true, [], B_number_in⟩
def B_joined : Ss :=
  (.cons (.asg (.name 1) (.prim false .lst .nil))
  (.cons (.for_ (.names [2, 3]) (.val (.prim true .sorted (.cons (.v 0) .nil)))
    (.cons (.if_ (.and_ (.c (.cmp .gt (.prim true .len (.cons (.v 1) .nil)) (.c (.int (0))))) (.c (.cmp .le (.v 2) (.prim true .ix (.cons (.prim true .ix (.cons (.v 1) (.cons (.prim true .neg (.cons (.c (.int (1))) .nil)) .nil))) (.cons (.c (.int (1))) .nil))))))
      (.cons (.asg (.sub (.v 1) (.prim true .neg (.cons (.c (.int (1))) .nil))) (.prim true .tup (.cons (.prim true .ix (.cons (.prim true .ix (.cons (.v 1) (.cons (.prim true .neg (.cons (.c (.int (1))) .nil)) .nil))) (.cons (.c (.int (0))) .nil))) (.cons (.prim true .max (.cons (.prim true .ix (.cons (.prim true .ix (.cons (.v 1) (.cons (.prim true .neg (.cons (.c (.int (1))) .nil)) .nil))) (.cons (.c (.int (1))) .nil))) (.cons (.v 3) .nil))) .nil)))) .nil)
      (.cons (.ex (.bm .append (.v 1) (.cons (.prim true .tup (.cons (.v 2) (.cons (.v 3) .nil))) .nil))) .nil)) .nil))
  (.cons (.ret (.prim true .tuple (.cons (.v 1) .nil))) .nil)))
def F_joined : FnI := ⟨1, 4, [], false, true, [1], B_joined⟩
def B_in_both : Ss :=
  (.cons (.asg (.name 2) (.prim false .lst .nil))
  (.cons (.asg (.names [3, 4]) (.prim true .tup (.cons (.c (.int (0))) (.cons (.c (.int (0))) .nil))))
  (.cons (.while_ (.and_ (.c (.cmp .lt (.v 3) (.prim true .len (.cons (.v 0) .nil)))) (.c (.cmp .lt (.v 4) (.prim true .len (.cons (.v 1) .nil)))))
    (.cons (.asg (.names [5, 6]) (.prim true .tup (.cons (.prim true .max (.cons (.prim true .ix (.cons (.prim true .ix (.cons (.v 0) (.cons (.v 3) .nil))) (.cons (.c (.int (0))) .nil))) (.cons (.prim true .ix (.cons (.prim true .ix (.cons (.v 1) (.cons (.v 4) .nil))) (.cons (.c (.int (0))) .nil))) .nil))) (.cons (.prim true .min (.cons (.prim true .ix (.cons (.prim true .ix (.cons (.v 0) (.cons (.v 3) .nil))) (.cons (.c (.int (1))) .nil))) (.cons (.prim true .ix (.cons (.prim true .ix (.cons (.v 1) (.cons (.v 4) .nil))) (.cons (.c (.int (1))) .nil))) .nil))) .nil))))
    (.cons (.if_ (.c (.cmp .lt (.v 5) (.v 6)))
      (.cons (.ex (.bm .append (.v 2) (.cons (.prim true .tup (.cons (.v 5) (.cons (.v 6) .nil))) .nil))) .nil) .nil)
    (.cons (.if_ (.c (.cmp .lt (.prim true .ix (.cons (.prim true .ix (.cons (.v 0) (.cons (.v 3) .nil))) (.cons (.c (.int (1))) .nil))) (.prim true .ix (.cons (.prim true .ix (.cons (.v 1) (.cons (.v 4) .nil))) (.cons (.c (.int (1))) .nil)))))
      (.cons (.asg (.name 3) (.bin true .add (.v 3) (.c (.int (1))))) .nil)
      (.cons (.asg (.name 4) (.bin true .add (.v 4) (.c (.int (1))))) .nil)) .nil))))
  (.cons (.ret (.prim true .tuple (.cons (.v 2) .nil))) .nil))))
def F_in_both : FnI := ⟨2, 7, [], false, true, [2], B_in_both⟩
def B_left_over : Ss :=
  (.cons (.if_ (.c (.cmp .eq (.prim true .len (.cons (.v 0) .nil)) (.c (.int (0)))))
    (.cons (.ret (.prim true .tup .nil)) .nil) .nil)
  (.cons .never
  (.cons .never
  (.cons (.ret (.call i_in_both (.cons (.v 0) (.cons (.prim true .tuple (.cons (.v 3) .nil)) .nil)) .nil [])) .nil))))
def F_left_over : FnI := ⟨2, 8, [], false, true, [], B_left_over⟩
def B_Row___init__ : Ss :=
  (.cons (.asg (.name 3) (.comp true (.call i_pair_of (.cons (.v 2) .nil) .nil []) [4, 2] (.name 2) (.val (.v 1)) .yes))
  (.cons (.for_ (.name 2) (.val (.v 3))
    (.cons (.if_ (.c (.cmp .ge (.prim true .ix (.cons (.v 2) (.cons (.c (.int (0))) .nil))) (.prim true .ix (.cons (.v 2) (.cons (.c (.int (1))) .nil)))))
      (.cons .never .nil) .nil) .nil))
  (.cons (.asg (.attr (.v 0) a_own_spans) (.call i_joined (.cons (.v 3) .nil) .nil [])) .nil)))
def F_Row___init__ : FnI := ⟨2, 5, [(.tup [])], true, true, [], B_Row___init__⟩
def B_Row_spans : Ss :=
  (.cons (.ret (.attr (.v 0) a_own_spans)) .nil)
def F_Row_spans : FnI := ⟨1, 1, [], false, true, [], B_Row_spans⟩
def B_Row_text : Ss :=
  (.cons (.ret (.ite (.c (.cmp .gt (.prim true .len (.cons (.attr (.v 0) a_own_spans) .nil)) (.c (.int (0))))) (.bm .join (.c (.str " ")) (.cons (.comp true (.prim true .fmt (.cons (.v 2) (.cons (.c (.str "..")) (.cons (.v 3) .nil)))) [1, 2, 3] (.names [2, 3]) (.val (.attr (.v 0) a_own_spans)) .yes) .nil)) (.c (.str "-")))) .nil)
def F_Row_text : FnI := ⟨1, 4, [], false, true, [], B_Row_text⟩
def B_Row___len__ : Ss :=
  (.cons (.ret (.prim true .len (.cons (.attr (.v 0) a_own_spans) .nil))) .nil)
def F_Row___len__ : FnI := ⟨1, 1, [], false, true, [], B_Row___len__⟩
def B_Row___getitem__ : Ss :=
  (.cons (.if_ (.or_ (.c (.cmp .lt (.v 1) (.c (.int (0))))) (.c (.cmp .ge (.v 1) (.prim true .len (.cons (.attr (.v 0) a_own_spans) .nil)))))
    (.cons .never .nil) .nil)
  (.cons (.ret (.prim true .ix (.cons (.attr (.v 0) a_own_spans) (.cons (.v 1) .nil)))) .nil))
def F_Row___getitem__ : FnI := ⟨2, 2, [], false, true, [], B_Row___getitem__⟩
def B_Row___sub__ : Ss :=
  (.cons (.ret (.mk c_Row (.cons (.call i_left_over (.cons (.attr (.v 0) a_own_spans) (.cons (.attr (.v 1) a_spans) .nil)) .nil []) .nil) .nil [])) .nil)
def F_Row___sub__ : FnI := ⟨2, 2, [], false, true, [], B_Row___sub__⟩
def B_Row___rshift__ : Ss :=
  (.cons (.ret (.mk c_Row (.cons (.comp true (.prim true .tup (.cons (.bin true .add (.v 3) (.v 1)) (.cons (.bin true .add (.v 4) (.v 1)) .nil))) [2, 3, 4] (.names [3, 4]) (.val (.attr (.v 0) a_own_spans)) .yes) .nil) .nil [])) .nil)
def F_Row___rshift__ : FnI := ⟨2, 5, [], false, true, [], B_Row___rshift__⟩
def B_Row___eq__ : Ss :=
  (.cons (.ret (.and_ (.prim true (.isi [.own c_Row]) (.cons (.v 1) .nil)) (.cmp .eq (.attr (.v 0) a_own_spans) (.attr (.v 1) a_spans)))) .nil)
def F_Row___eq__ : FnI := ⟨2, 2, [], false, true, [], B_Row___eq__⟩
def B_is_good : Ss :=
  (.cons (.if_ (.or_ (.c (.din [("fill", (.int (1))), ("drop", (.int (1))), ("widen", (.int (2))), ("trim", (.int (2))), ("shift", (.int (1)))] true (.v 0))) (.or_ (.c (.cmp .ne (.prim true .len (.cons (.v 1) .nil)) (.dget [("fill", (.int (1))), ("drop", (.int (1))), ("widen", (.int (2))), ("trim", (.int (2))), ("shift", (.int (1)))] (.v 0)))) (.not_ (.e (.prim true .all (.cons (.comp true (.call i_is_number (.cons (.v 3) .nil) .nil []) [2, 3] (.name 3) (.val (.v 1)) .yes) .nil))))))
    (.cons (.ret (.c (.bl false))) .nil) .nil)
  (.cons (.ret (.or_ (.cmp .eq (.v 0) (.c (.str "shift"))) (.cmp .ge (.prim true .min1 (.cons (.v 1) .nil)) (.c (.int (0)))))) .nil))
def F_is_good : FnI := ⟨2, 4, [], false, true, [], B_is_good⟩
def B_filled : Ss :=
  (.cons (.asg (.name 2) (.prim false .lst .nil))
  (.cons (.for_ (.names [3, 4]) (.val (.v 0))
    (.cons (.if_ (.and_ (.c (.cmp .gt (.prim true .len (.cons (.v 2) .nil)) (.c (.int (0))))) (.c (.cmp .le (.bin true .sub (.v 3) (.prim true .ix (.cons (.prim true .ix (.cons (.v 2) (.cons (.prim true .neg (.cons (.c (.int (1))) .nil)) .nil))) (.cons (.c (.int (1))) .nil)))) (.v 1))))
      (.cons (.asg (.sub (.v 2) (.prim true .neg (.cons (.c (.int (1))) .nil))) (.prim true .tup (.cons (.prim true .ix (.cons (.prim true .ix (.cons (.v 2) (.cons (.prim true .neg (.cons (.c (.int (1))) .nil)) .nil))) (.cons (.c (.int (0))) .nil))) (.cons (.v 4) .nil)))) .nil)
      (.cons (.ex (.bm .append (.v 2) (.cons (.prim true .tup (.cons (.v 3) (.cons (.v 4) .nil))) .nil))) .nil)) .nil))
  (.cons (.ret (.prim true .tuple (.cons (.v 2) .nil))) .nil)))
def F_filled : FnI := ⟨2, 5, [], false, true, [2], B_filled⟩
def B_moved : Ss :=
  (.cons (.ret (.prim true .tuple (.cons (.comp true (.prim true .tup (.cons (.bin true .add (.v 4) (.v 1)) (.cons (.bin true .add (.v 5) (.v 2)) .nil))) [3, 4, 5] (.names [4, 5]) (.val (.v 0)) (.c (.cmp .lt (.bin true .add (.v 4) (.v 1)) (.bin true .add (.v 5) (.v 2))))) .nil))) .nil)
def F_moved : FnI := ⟨3, 6, [], false, true, [], B_moved⟩
def B_Step___init__ : Ss :=
  (.cons (.asg (.name 3) (.call i_tupled (.cons (.v 2) .nil) .nil []))
  (.cons (.if_ (.not_ (.e (.call i_is_good (.cons (.v 1) (.cons (.v 3) .nil)) .nil [])))
    (.cons .never .nil) .nil)
  (.cons (.asg (.attr (.v 0) a_own_kind) (.v 1))
  (.cons (.asg (.attr (.v 0) a_own_amounts) (.v 3)) .nil))))
def F_Step___init__ : FnI := ⟨3, 4, [], true, true, [], B_Step___init__⟩
def B_Step_of : Ss :=
  (.cons (.asg (.name 1) (.bm .split (.v 0) (.cons (.c (.str " ")) .nil)))
  (.cons (.asg (.name 2) (.prim true .tuple (.cons (.comp true (.call i_number_in (.cons (.v 4) .nil) .nil []) [3, 4] (.name 4) (.val (.slice true (.v 1) (.some (.c (.int (1)))) .none)) .yes) .nil)))
  (.cons (.if_ (.not_ (.e (.call i_is_good (.cons (.prim true .ix (.cons (.v 1) (.cons (.c (.int (0))) .nil))) (.cons (.v 2) .nil)) .nil [])))
    (.cons .never .nil) .nil)
  (.cons (.ret (.mk c_Step (.cons (.prim true .ix (.cons (.v 1) (.cons (.c (.int (0))) .nil))) (.cons (.v 2) .nil)) .nil [])) .nil))))
def F_Step_of : FnI := ⟨1, 5, [], false, true, [], B_Step_of⟩
def B_Step_kind : Ss :=
  (.cons (.ret (.attr (.v 0) a_own_kind)) .nil)
def F_Step_kind : FnI := ⟨1, 1, [], false, true, [], B_Step_kind⟩
def B_Step_amounts : Ss :=
  (.cons (.ret (.attr (.v 0) a_own_amounts)) .nil)
def F_Step_amounts : FnI := ⟨1, 1, [], false, true, [], B_Step_amounts⟩
def B_Step_text : Ss :=
  (.cons (.ret (.bm .join (.c (.str " ")) (.cons (.bin true .add (.prim true .lst (.cons (.attr (.v 0) a_own_kind) .nil)) (.comp true (.prim true .str (.cons (.v 2) .nil)) [1, 2] (.name 2) (.val (.attr (.v 0) a_own_amounts)) .yes)) .nil))) .nil)
def F_Step_text : FnI := ⟨1, 3, [], false, true, [], B_Step_text⟩
def B_Step___call__ : Ss :=
  (.cons (.if_ (.c (.cmp .eq (.attr (.v 0) a_own_kind) (.c (.str "fill"))))
    (.cons (.ret (.mk c_Row (.cons (.call i_filled (.cons (.attr (.v 1) a_spans) (.cons (.prim true .ix (.cons (.attr (.v 0) a_own_amounts) (.cons (.c (.int (0))) .nil))) .nil)) .nil []) .nil) .nil [])) .nil) .nil)
  (.cons (.if_ (.c (.cmp .eq (.attr (.v 0) a_own_kind) (.c (.str "drop"))))
    (.cons (.ret (.mk c_Row (.cons (.comp true (.v 5) [4, 5] (.name 5) (.val (.attr (.v 1) a_spans)) (.c (.cmp .gt (.bin true .sub (.prim true .ix (.cons (.v 5) (.cons (.c (.int (1))) .nil))) (.prim true .ix (.cons (.v 5) (.cons (.c (.int (0))) .nil)))) (.prim true .ix (.cons (.attr (.v 0) a_own_amounts) (.cons (.c (.int (0))) .nil)))))) .nil) .nil [])) .nil) .nil)
  (.cons (.asg (.names [2, 3]) (.call i_edges_of (.cons (.v 0) .nil) .nil []))
  (.cons (.ret (.mk c_Row (.cons (.call i_moved (.cons (.attr (.v 1) a_spans) (.cons (.v 2) (.cons (.v 3) .nil))) .nil []) .nil) .nil [])) .nil))))
def F_Step___call__ : FnI := ⟨2, 6, [], false, true, [], B_Step___call__⟩
def B_Step___eq__ : Ss :=
  (.cons (.ret (.and_ (.prim true (.isi [.own c_Step]) (.cons (.v 1) .nil)) (.and_ (.cmp .eq (.attr (.v 0) a_own_kind) (.attr (.v 1) a_kind)) (.cmp .eq (.attr (.v 0) a_own_amounts) (.attr (.v 1) a_amounts))))) .nil)
def F_Step___eq__ : FnI := ⟨2, 2, [], false, true, [], B_Step___eq__⟩
def B_edges_of : Ss :=
  (.cons (.if_ (.c (.cmp .eq (.attr (.v 0) a_kind) (.c (.str "shift"))))
    (.cons (.ret (.prim true .tup (.cons (.prim true .ix (.cons (.attr (.v 0) a_amounts) (.cons (.c (.int (0))) .nil))) (.cons (.prim true .ix (.cons (.attr (.v 0) a_amounts) (.cons (.c (.int (0))) .nil))) .nil)))) .nil) .nil)
  (.cons (.if_ (.c (.cmp .eq (.attr (.v 0) a_kind) (.c (.str "widen"))))
    (.cons (.ret (.prim true .tup (.cons (.prim true .neg (.cons (.prim true .ix (.cons (.attr (.v 0) a_amounts) (.cons (.c (.int (0))) .nil))) .nil)) (.cons (.prim true .ix (.cons (.attr (.v 0) a_amounts) (.cons (.c (.int (1))) .nil))) .nil)))) .nil) .nil)
  (.cons (.ret (.ite (.c (.cmp .eq (.attr (.v 0) a_kind) (.c (.str "trim")))) (.prim true .tup (.cons (.prim true .ix (.cons (.attr (.v 0) a_amounts) (.cons (.c (.int (0))) .nil))) (.cons (.prim true .neg (.cons (.prim true .ix (.cons (.attr (.v 0) a_amounts) (.cons (.c (.int (1))) .nil))) .nil)) .nil))) (.prim true .tup (.cons (.c (.int (0))) (.cons (.c (.int (0))) .nil))))) .nil)))
def F_edges_of : FnI := ⟨1, 1, [], false, true, [], B_edges_of⟩
def B__law_box : Ss :=
  (.cons (.asg (.name 2) (.ite (.c (.cmp .lt (.v 1) (.prim true .len (.cons (.v 0) .nil)))) (.prim true .ix (.cons (.v 0) (.cons (.v 1) .nil))) (.c (.int (0)))))
  (.cons (.ret (.prim false .lst (.cons (.bin false .mul (.prim true .abs (.cons (.v 2) .nil)) (.prim true .int (.cons (.cmp .ge (.prim true .abs (.cons (.v 2) .nil)) (.bin true .pow (.c (.int (10))) (.c (.int (18))))) .nil))) (.cons (.bin false .add (.bin true .add (.bin true .mod (.prim true .int (.cons (.v 2) .nil)) (.c (.int (2305843009213693951)))) (.bin true .mul (.c (.int (39373))) (.v 1))) (.c (.int (594005)))) (.cons (.c (.int (0))) .nil))))) .nil))
def F__law_box : FnI := ⟨2, 3, [], false, false, [], B__law_box⟩
def B__law_take : Ss :=
  (.cons (.if_ (.c (.cmp .gt (.prim true .ix (.cons (.v 0) (.cons (.c (.int (0))) .nil))) (.c (.int (0)))))
    (.cons (.asg (.name 2) (.bin true .mod (.prim true .int (.cons (.prim true .ix (.cons (.v 0) (.cons (.c (.int (0))) .nil))) .nil)) (.v 1)))
    (.cons (.asg (.sub (.v 0) (.c (.int (0)))) (.bin true .fdiv (.prim true .ix (.cons (.v 0) (.cons (.c (.int (0))) .nil))) (.v 1)))
    (.cons (.ret (.v 2)) .nil))) .nil)
  (.cons (.asg (.sub (.v 0) (.c (.int (2)))) (.bin true .add (.prim true .ix (.cons (.v 0) (.cons (.c (.int (2))) .nil))) (.c (.int (1)))))
  (.cons (.asg (.name 3) (.bin true .mod (.prim true .int (.cons (.bin true .mul (.bin true .add (.prim true .ix (.cons (.v 0) (.cons (.c (.int (1))) .nil))) (.bin true .mul (.c (.int (48271))) (.prim true .ix (.cons (.v 0) (.cons (.c (.int (2))) .nil))))) (.bin true .add (.c (.int (39373))) (.prim true .ix (.cons (.v 0) (.cons (.c (.int (2))) .nil))))) .nil)) (.c (.int (2147483647)))))
  (.cons (.asg (.name 4) (.bin true .add (.bin true .mod (.prim true .int (.cons (.v 3) .nil)) (.c (.int (40009)))) (.c (.int (7)))))
  (.cons (.asg (.name 5) (.bin true .mod (.prim true .int (.cons (.bin true .mul (.bin true .add (.bin true .add (.v 3) (.prim true .ix (.cons (.v 0) (.cons (.c (.int (2))) .nil)))) (.bin true .fdiv (.prim true .ix (.cons (.v 0) (.cons (.c (.int (1))) .nil))) (.c (.int (1000003))))) (.v 4)) .nil)) (.c (.int (2147483629)))))
  (.cons (.ret (.bin true .mod (.prim true .int (.cons (.bin true .fdiv (.bin true .mod (.prim true .int (.cons (.bin true .add (.bin true .mul (.v 5) (.c (.int (48271)))) (.v 3)) .nil)) (.c (.int (2147483587)))) (.c (.int (64)))) .nil)) (.v 1))) .nil))))))
def F__law_take : FnI := ⟨2, 6, [], true, true, [0], B__law_take⟩
def B__law_cells : Ss :=
  (.cons (.asg (.name 2) (.or_ (.prim false .list (.cons (.slice true (.v 0) .none (.some (.v 1))) .nil)) (.prim false .lst (.cons (.c (.int (0))) .nil))))
  (.cons (.for_ (.names [3, 4]) (.enum (.slice true (.v 0) (.some (.v 1)) (.some (.c (.int (63))))))
    (.cons (.asg (.name 5) (.bin true .mod (.prim true .int (.cons (.v 3) .nil)) (.v 1)))
    (.cons (.asg (.sub (.v 2) (.v 5)) (.bin true .add (.prim true .ix (.cons (.v 2) (.cons (.v 5) .nil))) (.bin true .mul (.v 4) (.bin true .add (.v 3) (.c (.int (2))))))) .nil)))
  (.cons (.ret (.v 2)) .nil)))
def F__law_cells : FnI := ⟨2, 6, [], false, true, [2], B__law_cells⟩
def B__law_of : Ss :=
  (.cons (.ret (.prim true .ix (.cons (.v 1) (.cons (.call i__law_take (.cons (.v 0) (.cons (.prim true .len (.cons (.v 1) .nil)) .nil)) .nil []) .nil)))) .nil)
def F__law_of : FnI := ⟨2, 2, [], true, true, [0], B__law_of⟩
def B__law_same : Ss :=
  (.cons (.if_ (.e (.prim true (.isi [.list, .tuple]) (.cons (.v 1) .nil)))
    (.cons (.if_ (.or_ (.c (.cmp .ne (.prim true (.isi [.list]) (.cons (.v 0) .nil)) (.prim true (.isi [.list]) (.cons (.v 1) .nil)))) (.c (.cmp .ne (.prim true (.isi [.tuple]) (.cons (.v 0) .nil)) (.prim true (.isi [.tuple]) (.cons (.v 1) .nil)))))
      (.cons (.ret (.c (.bl false))) .nil) .nil)
    (.cons (.ret (.and_ (.cmp .eq (.prim true .len (.cons (.v 0) .nil)) (.prim true .len (.cons (.v 1) .nil))) (.prim true .all (.cons (.comp true (.call i__law_same (.cons (.v 3) (.cons (.v 4) .nil)) .nil []) [2, 3, 4] (.names [3, 4]) (.zip (.v 0) (.v 1)) .yes) .nil)))) .nil)) .nil)
  (.cons (.if_ (.or_ (.c (.cmp .is_ (.v 1) (.c .non))) (.e (.prim true (.isi [.bool, .str]) (.cons (.v 1) .nil))))
    (.cons (.ret (.and_ (.cmp .eq (.v 0) (.v 1)) (.and_ (.cmp .eq (.prim true (.isi [.bool]) (.cons (.v 0) .nil)) (.prim true (.isi [.bool]) (.cons (.v 1) .nil))) (.cmp .eq (.cmp .is_ (.v 0) (.c .non)) (.cmp .is_ (.v 1) (.c .non)))))) .nil) .nil)
  (.cons (.ret (.and_ (.prim true (.isi [.int]) (.cons (.v 0) .nil)) (.and_ (.not_ (.prim true (.isi [.bool]) (.cons (.v 0) .nil))) (.cmp .eq (.v 0) (.v 1))))) .nil)))
def F__law_same : FnI := ⟨2, 5, [], false, true, [], B__law_same⟩
def B__law_mixed : Ss :=
  (.cons (.asg (.names [2, 3]) (.prim true .tup (.cons (.prim false .list (.cons (.v 1) .nil)) (.cons (.prim false .lst .nil) .nil))))
  (.cons (.for_ (.name 4) (.range (.cons (.prim true .len (.cons (.v 1) .nil)) .nil))
    (.cons (.ex (.bm .append (.v 3) (.cons (.bm .pop (.v 2) (.cons (.call i__law_take (.cons (.v 0) (.cons (.prim true .len (.cons (.v 2) .nil)) .nil)) .nil []) .nil)) .nil))) .nil))
  (.cons (.ret (.v 3)) .nil)))
def F__law_mixed : FnI := ⟨2, 5, [], true, true, [3, 2, 0], B__law_mixed⟩
def B__law_pairs : Ss :=
  (.cons (.asg (.names [3, 4]) (.prim true .tup (.cons (.prim false .lst .nil) (.cons (.bin false .sub (.call i__law_take (.cons (.v 0) (.cons (.c (.int (9))) .nil)) .nil []) (.c (.int (4)))) .nil))))
  (.cons (.for_ (.name 5) (.range (.cons (.call i__law_take (.cons (.v 0) (.cons (.bin true .add (.v 1) (.c (.int (1)))) .nil)) .nil []) .nil))
    (.cons (.asg (.name 4) (.bin true .add (.v 4) (.call i__law_of (.cons (.v 0) (.cons (.prim true .lst (.cons (.c (.int (0))) (.cons (.c (.int (1))) (.cons (.c (.int (1))) (.cons (.c (.int (2))) (.cons (.c (.int (3))) (.cons (.prim true .neg (.cons (.c (.int (2))) .nil)) (.cons (.call i__law_take (.cons (.v 0) (.cons (.v 2) .nil)) .nil []) .nil)))))))) .nil)) .nil [])))
    (.cons (.asg (.name 6) (.bin true .add (.bin true .add (.v 4) (.c (.int (1)))) (.call i__law_of (.cons (.v 0) (.cons (.prim true .lst (.cons (.c (.int (0))) (.cons (.c (.int (0))) (.cons (.c (.int (1))) (.cons (.c (.int (2))) (.cons (.call i__law_take (.cons (.v 0) (.cons (.v 2) .nil)) .nil []) .nil)))))) .nil)) .nil [])))
    (.cons (.ex (.bm .append (.v 3) (.cons (.prim true .tup (.cons (.v 4) (.cons (.v 6) .nil))) .nil)))
    (.cons (.asg (.name 4) (.v 6)) .nil)))))
  (.cons (.ret (.prim true .tuple (.cons (.call i__law_mixed (.cons (.v 0) (.cons (.v 3) .nil)) .nil []) .nil))) .nil)))
def F__law_pairs : FnI := ⟨3, 7, [], true, true, [3, 0], B__law_pairs⟩
def B__law_gathered : Ss :=
  (.cons (.asg (.name 1) (.prim false .lst .nil))
  (.cons (.for_ (.name 2) (.val (.v 0))
    (.cons (.if_ (.and_ (.c (.cmp .ne (.v 1) (.prim true .lst .nil))) (.c (.cmp .eq (.prim true .ix (.cons (.prim true .ix (.cons (.v 1) (.cons (.prim true .neg (.cons (.c (.int (1))) .nil)) .nil))) (.cons (.c (.int (1))) .nil))) (.v 2))))
      (.cons (.asg (.sub (.v 1) (.prim true .neg (.cons (.c (.int (1))) .nil))) (.prim true .tup (.cons (.prim true .ix (.cons (.prim true .ix (.cons (.v 1) (.cons (.prim true .neg (.cons (.c (.int (1))) .nil)) .nil))) (.cons (.c (.int (0))) .nil))) (.cons (.bin true .add (.v 2) (.c (.int (1)))) .nil)))) .nil)
      (.cons (.ex (.bm .append (.v 1) (.cons (.prim true .tup (.cons (.v 2) (.cons (.bin true .add (.v 2) (.c (.int (1)))) .nil))) .nil))) .nil)) .nil))
  (.cons (.ret (.prim true .tuple (.cons (.v 1) .nil))) .nil)))
def F__law_gathered : FnI := ⟨1, 3, [], false, true, [1], B__law_gathered⟩
def B__law_met : Ss :=
  (.cons (.asg (.name 1) (.prim false .lst .nil))
  (.cons (.for_ (.names [2, 3]) (.val (.prim true .sorted (.cons (.v 0) .nil)))
    (.cons (.if_ (.and_ (.c (.cmp .ne (.v 1) (.prim true .lst .nil))) (.c (.cmp .le (.v 2) (.prim true .ix (.cons (.prim true .ix (.cons (.v 1) (.cons (.prim true .neg (.cons (.c (.int (1))) .nil)) .nil))) (.cons (.c (.int (1))) .nil))))))
      (.cons (.asg (.sub (.v 1) (.prim true .neg (.cons (.c (.int (1))) .nil))) (.prim true .tup (.cons (.prim true .ix (.cons (.prim true .ix (.cons (.v 1) (.cons (.prim true .neg (.cons (.c (.int (1))) .nil)) .nil))) (.cons (.c (.int (0))) .nil))) (.cons (.prim true .max (.cons (.v 3) (.cons (.prim true .ix (.cons (.prim true .ix (.cons (.v 1) (.cons (.prim true .neg (.cons (.c (.int (1))) .nil)) .nil))) (.cons (.c (.int (1))) .nil))) .nil))) .nil)))) .nil)
      (.cons (.ex (.bm .append (.v 1) (.cons (.prim true .tup (.cons (.v 2) (.cons (.v 3) .nil))) .nil))) .nil)) .nil))
  (.cons (.ret (.prim true .tuple (.cons (.v 1) .nil))) .nil)))
def F__law_met : FnI := ⟨1, 4, [], false, true, [1], B__law_met⟩
def B__law_stage : Ss :=
  (.cons (.asg (.name 2) (.call i__law_of (.cons (.v 0) (.cons (.prim true .lst (.cons (.c (.str "fill")) (.cons (.c (.str "drop")) (.cons (.c (.str "widen")) (.cons (.c (.str "trim")) (.cons (.c (.str "widen")) (.cons (.c (.str "trim")) (.cons (.c (.str "shift")) .nil)))))))) .nil)) .nil []))
  (.cons (.if_ (.c (.cmp .eq (.v 2) (.c (.str "shift"))))
    (.cons (.ret (.prim true .tup (.cons (.v 2) (.cons (.prim true .tup (.cons (.bin true .sub (.call i__law_take (.cons (.v 0) (.cons (.bin true .add (.bin true .mul (.c (.int (2))) (.v 1)) (.c (.int (1)))) .nil)) .nil []) (.v 1)) .nil)) .nil)))) .nil) .nil)
  (.cons (.if_ (.c (.cmp .in_ (.v 2) (.prim true .tup (.cons (.c (.str "fill")) (.cons (.c (.str "drop")) .nil)))))
    (.cons (.ret (.prim true .tup (.cons (.v 2) (.cons (.prim true .tup (.cons (.call i__law_take (.cons (.v 0) (.cons (.bin true .add (.v 1) (.c (.int (1)))) .nil)) .nil []) .nil)) .nil)))) .nil) .nil)
  (.cons (.ret (.prim true .tup (.cons (.v 2) (.cons (.prim true .tup (.cons (.call i__law_take (.cons (.v 0) (.cons (.bin true .add (.v 1) (.c (.int (1)))) .nil)) .nil []) (.cons (.call i__law_take (.cons (.v 0) (.cons (.bin true .add (.v 1) (.c (.int (1)))) .nil)) .nil []) .nil))) .nil)))) .nil))))
def F__law_stage : FnI := ⟨2, 3, [], true, true, [0], B__law_stage⟩
def B__law_is_in : Ss :=
  (.cons (.for_ (.names [4, 5]) (.val (.v 0))
    (.cons (.if_ (.and_ (.c (.cmp .eq (.v 1) (.c (.str "shift")))) (.and_ (.c (.cmp .le (.v 4) (.bin true .sub (.v 3) (.prim true .ix (.cons (.v 2) (.cons (.c (.int (0))) .nil)))))) (.c (.cmp .lt (.bin true .sub (.v 3) (.prim true .ix (.cons (.v 2) (.cons (.c (.int (0))) .nil)))) (.v 5)))))
      (.cons (.ret (.c (.bl true))) .nil) .nil)
    (.cons (.if_ (.and_ (.c (.cmp .eq (.v 1) (.c (.str "widen")))) (.and_ (.c (.cmp .le (.bin true .sub (.v 4) (.prim true .ix (.cons (.v 2) (.cons (.c (.int (0))) .nil)))) (.v 3))) (.c (.cmp .lt (.v 3) (.bin true .add (.v 5) (.prim true .ix (.cons (.v 2) (.cons (.c (.int (1))) .nil))))))))
      (.cons (.ret (.c (.bl true))) .nil) .nil)
    (.cons (.if_ (.and_ (.c (.cmp .eq (.v 1) (.c (.str "trim")))) (.and_ (.c (.cmp .le (.bin true .add (.v 4) (.prim true .ix (.cons (.v 2) (.cons (.c (.int (0))) .nil)))) (.v 3))) (.c (.cmp .lt (.v 3) (.bin true .sub (.v 5) (.prim true .ix (.cons (.v 2) (.cons (.c (.int (1))) .nil))))))))
      (.cons (.ret (.c (.bl true))) .nil) .nil)
    (.cons (.if_ (.and_ (.c (.cmp .eq (.v 1) (.c (.str "drop")))) (.and_ (.c (.cmp .le (.v 4) (.v 3))) (.and_ (.c (.cmp .lt (.v 3) (.v 5))) (.c (.cmp .gt (.bin true .sub (.v 5) (.v 4)) (.prim true .ix (.cons (.v 2) (.cons (.c (.int (0))) .nil))))))))
      (.cons (.ret (.c (.bl true))) .nil) .nil)
    (.cons (.if_ (.and_ (.c (.cmp .eq (.v 1) (.c (.str "fill")))) (.and_ (.c (.cmp .le (.v 4) (.v 3))) (.c (.cmp .lt (.v 3) (.v 5)))))
      (.cons (.ret (.c (.bl true))) .nil) .nil) .nil))))))
  (.cons (.asg (.name 6) (.comp true (.v 5) [8, 4, 5] (.names [4, 5]) (.val (.v 0)) (.c (.cmp .le (.v 5) (.v 3)))))
  (.cons (.asg (.name 7) (.comp true (.v 4) [8, 4, 5] (.names [4, 5]) (.val (.v 0)) (.c (.cmp .gt (.v 4) (.v 3)))))
  (.cons (.ret (.and_ (.cmp .eq (.v 1) (.c (.str "fill"))) (.and_ (.cmp .ne (.v 6) (.prim true .lst .nil)) (.and_ (.cmp .ne (.v 7) (.prim true .lst .nil)) (.cmp .le (.bin true .sub (.prim true .min1 (.cons (.v 7) .nil)) (.prim true .max1 (.cons (.v 6) .nil))) (.prim true .ix (.cons (.v 2) (.cons (.c (.int (0))) .nil)))))))) .nil))))
def F__law_is_in : FnI := ⟨4, 9, [], false, true, [], B__law_is_in⟩
def B__law_by_hand_right : Ss :=
  (.cons (.asg (.name 0) (.mk c_Row (.cons (.prim true .tup (.cons (.prim true .tup (.cons (.c (.int (0))) (.cons (.c (.int (2))) .nil))) (.cons (.prim true .tup (.cons (.c (.int (5))) (.cons (.c (.int (6))) .nil))) (.cons (.prim true .tup (.cons (.c (.int (10))) (.cons (.c (.int (14))) .nil))) (.cons (.prim true .tup (.cons (.c (.int (15))) (.cons (.c (.int (20))) .nil))) .nil))))) .nil) .nil []))
  (.cons (.asg (.name 1) (.prim false .lst (.cons (.attr (.calo (.mk c_Step (.cons (.c (.str "fill")) (.cons (.prim true .tup (.cons (.c (.int (3))) .nil)) .nil)) .nil []) a___call__ (.cons (.v 0) .nil) .nil []) a_text) (.cons (.attr (.calo (.mk c_Step (.cons (.c (.str "fill")) (.cons (.prim true .tup (.cons (.c (.int (4))) .nil)) .nil)) .nil []) a___call__ (.cons (.v 0) .nil) .nil []) a_text) (.cons (.cmp .eq (.calo (.mk c_Step (.cons (.c (.str "fill")) (.cons (.prim true .tup (.cons (.c (.int (0))) .nil)) .nil)) .nil []) a___call__ (.cons (.v 0) .nil) .nil []) (.v 0)) .nil)))))
  (.cons (.asg (.name 2) (.prim true .lst (.cons (.c (.str "0..6 10..20")) (.cons (.c (.str "0..20")) (.cons (.c (.bl true)) .nil)))))
  (.cons (.asg (.name 1) (.bin false .add (.v 1) (.prim true .lst (.cons (.attr (.calo (.mk c_Step (.cons (.c (.str "drop")) (.cons (.prim true .tup (.cons (.c (.int (1))) .nil)) .nil)) .nil []) a___call__ (.cons (.v 0) .nil) .nil []) a_text) (.cons (.attr (.calo (.mk c_Step (.cons (.c (.str "drop")) (.cons (.prim true .tup (.cons (.c (.int (4))) .nil)) .nil)) .nil []) a___call__ (.cons (.v 0) .nil) .nil []) a_text) (.cons (.attr (.calo (.mk c_Step (.cons (.c (.str "drop")) (.cons (.prim true .tup (.cons (.c (.int (5))) .nil)) .nil)) .nil []) a___call__ (.cons (.v 0) .nil) .nil []) a_text) .nil))))))
  (.cons (.asg (.name 2) (.bin true .add (.v 2) (.prim true .lst (.cons (.c (.str "0..2 10..14 15..20")) (.cons (.c (.str "15..20")) (.cons (.c (.str "-")) .nil))))))
  (.cons (.asg (.name 1) (.bin false .add (.v 1) (.prim true .lst (.cons (.attr (.calo (.mk c_Step (.cons (.c (.str "widen")) (.cons (.prim true .tup (.cons (.c (.int (1))) (.cons (.c (.int (2))) .nil))) .nil)) .nil []) a___call__ (.cons (.v 0) .nil) .nil []) a_text) (.cons (.attr (.calo (.mk c_Step (.cons (.c (.str "widen")) (.cons (.prim true .tup (.cons (.c (.int (2))) (.cons (.c (.int (0))) .nil))) .nil)) .nil []) a___call__ (.cons (.v 0) .nil) .nil []) a_text) .nil)))))
  (.cons (.ex (.bm .append (.v 1) (.cons (.cmp .eq (.calo (.mk c_Step (.cons (.c (.str "widen")) (.cons (.prim true .tup (.cons (.c (.int (0))) (.cons (.c (.int (0))) .nil))) .nil)) .nil []) a___call__ (.cons (.v 0) .nil) .nil []) (.v 0)) .nil)))
  (.cons (.asg (.name 2) (.bin true .add (.v 2) (.prim true .lst (.cons (.c (.str "-1..8 9..22")) (.cons (.c (.str "-2..2 3..6 8..20")) (.cons (.c (.bl true)) .nil))))))
  (.cons (.asg (.name 1) (.bin false .add (.v 1) (.prim true .lst (.cons (.attr (.calo (.mk c_Step (.cons (.c (.str "trim")) (.cons (.prim true .tup (.cons (.c (.int (1))) (.cons (.c (.int (1))) .nil))) .nil)) .nil []) a___call__ (.cons (.v 0) .nil) .nil []) a_text) (.cons (.attr (.calo (.mk c_Step (.cons (.c (.str "trim")) (.cons (.prim true .tup (.cons (.c (.int (0))) (.cons (.c (.int (3))) .nil))) .nil)) .nil []) a___call__ (.cons (.v 0) .nil) .nil []) a_text) (.cons (.attr (.calo (.mk c_Step (.cons (.c (.str "trim")) (.cons (.prim true .tup (.cons (.c (.int (4))) (.cons (.c (.int (1))) .nil))) .nil)) .nil []) a___call__ (.cons (.v 0) .nil) .nil []) a_text) .nil))))))
  (.cons (.asg (.name 2) (.bin true .add (.v 2) (.prim true .lst (.cons (.c (.str "11..13 16..19")) (.cons (.c (.str "10..11 15..17")) (.cons (.c (.str "-")) .nil))))))
  (.cons (.asg (.name 1) (.bin false .add (.v 1) (.prim true .lst (.cons (.attr (.calo (.mk c_Step (.cons (.c (.str "shift")) (.cons (.prim true .tup (.cons (.prim true .neg (.cons (.c (.int (7))) .nil)) .nil)) .nil)) .nil []) a___call__ (.cons (.v 0) .nil) .nil []) a_text) (.cons (.cmp .eq (.calo (.mk c_Step (.cons (.c (.str "shift")) (.cons (.prim true .tup (.cons (.bin true .pow (.c (.int (10))) (.c (.int (40)))) .nil)) .nil)) .nil []) a___call__ (.cons (.v 0) .nil) .nil []) (.bin true .shr (.v 0) (.bin true .pow (.c (.int (10))) (.c (.int (40)))))) (.cons (.attr (.v 0) a_text) .nil))))))
  (.cons (.asg (.name 2) (.bin true .add (.v 2) (.prim true .lst (.cons (.c (.str "-7..-5 -2..-1 3..7 8..13")) (.cons (.c (.bl true)) (.cons (.c (.str "0..2 5..6 10..14 15..20")) .nil))))))
  (.cons (.asg (.name 3) (.mk c_Row .nil .nil []))
  (.cons (.asg (.name 4) (.prim true .lst (.cons (.c (.str "fill 9")) (.cons (.c (.str "drop 9")) (.cons (.c (.str "widen 9 9")) (.cons (.c (.str "trim 9 9")) (.cons (.c (.str "shift 9")) .nil)))))))
  (.cons (.asg (.name 1) (.bin false .add (.v 1) (.comp true (.cmp .eq (.calo (.call i_Step_of (.cons (.v 8) .nil) .nil []) a___call__ (.cons (.v 3) .nil) .nil []) (.v 3)) [7, 8] (.name 8) (.val (.v 4)) .yes)))
  (.cons (.asg (.name 5) (.mk c_Row (.cons (.prim true .tup (.cons (.prim true .tup (.cons (.c (.int (0))) (.cons (.bin true .pow (.c (.int (10))) (.c (.int (39)))) .nil))) (.cons (.prim true .tup (.cons (.bin true .add (.bin true .mul (.c (.int (2))) (.bin true .pow (.c (.int (10))) (.c (.int (39))))) (.c (.int (1)))) (.cons (.bin true .mul (.c (.int (3))) (.bin true .pow (.c (.int (10))) (.c (.int (39))))) .nil))) .nil))) .nil) .nil []))
  (.cons (.asg (.name 1) (.bin false .add (.v 1) (.prim true .lst (.cons (.cmp .eq (.calo (.mk c_Step (.cons (.c (.str "fill")) (.cons (.prim true .tup (.cons (.bin true .pow (.c (.int (10))) (.c (.int (39)))) .nil)) .nil)) .nil []) a___call__ (.cons (.v 5) .nil) .nil []) (.v 5)) (.cons (.attr (.calo (.mk c_Step (.cons (.c (.str "fill")) (.cons (.prim true .tup (.cons (.bin true .add (.bin true .pow (.c (.int (10))) (.c (.int (39)))) (.c (.int (1)))) .nil)) .nil)) .nil []) a___call__ (.cons (.v 5) .nil) .nil []) a_text) .nil)))))
  (.cons (.asg (.name 2) (.bin true .add (.bin true .add (.v 2) (.bin true .mul (.prim true .lst (.cons (.c (.bl true)) .nil)) (.c (.int (5))))) (.prim true .lst (.cons (.c (.bl true)) (.cons (.bin true .add (.c (.str "0..3")) (.bin true .mul (.c (.str "0")) (.c (.int (39))))) .nil)))))
  (.cons (.asg (.name 1) (.bin false .add (.v 1) (.prim true .lst (.cons (.attr (.calo (.mk c_Step (.cons (.c (.str "drop")) (.cons (.prim true .tup (.cons (.bin true .sub (.bin true .pow (.c (.int (10))) (.c (.int (39)))) (.c (.int (1)))) .nil)) .nil)) .nil []) a___call__ (.cons (.v 5) .nil) .nil []) a_spans) (.cons (.attr (.calo (.mk c_Step (.cons (.c (.str "trim")) (.cons (.prim true .tup (.cons (.bin true .sub (.bin true .pow (.c (.int (10))) (.c (.int (39)))) (.c (.int (1)))) (.cons (.c (.int (0))) .nil))) .nil)) .nil []) a___call__ (.cons (.v 5) .nil) .nil []) a_spans) .nil)))))
  (.cons (.asg (.name 2) (.bin true .add (.v 2) (.prim true .lst (.cons (.prim true .tup (.cons (.prim true .tup (.cons (.c (.int (0))) (.cons (.bin true .pow (.c (.int (10))) (.c (.int (39)))) .nil))) .nil)) (.cons (.prim true .tup (.cons (.prim true .tup (.cons (.bin true .sub (.bin true .pow (.c (.int (10))) (.c (.int (39)))) (.c (.int (1)))) (.cons (.bin true .pow (.c (.int (10))) (.c (.int (39)))) .nil))) .nil)) .nil)))))
  (.cons (.asg (.name 6) (.mk c_Row (.cons (.comp true (.prim true .tup (.cons (.bin true .mul (.c (.int (3))) (.v 9)) (.cons (.bin true .add (.bin true .mul (.c (.int (3))) (.v 9)) (.c (.int (1)))) .nil))) [7, 9] (.name 9) (.range (.cons (.c (.int (300))) .nil)) .yes) .nil) .nil []))
  (.cons (.asg (.name 1) (.bin false .add (.v 1) (.prim true .lst (.cons (.attr (.calo (.mk c_Step (.cons (.c (.str "fill")) (.cons (.prim true .tup (.cons (.c (.int (2))) .nil)) .nil)) .nil []) a___call__ (.cons (.v 6) .nil) .nil []) a_spans) (.cons (.prim true .len (.cons (.calo (.mk c_Step (.cons (.c (.str "fill")) (.cons (.prim true .tup (.cons (.c (.int (1))) .nil)) .nil)) .nil []) a___call__ (.cons (.v 6) .nil) .nil []) .nil)) (.cons (.attr (.calo (.mk c_Step (.cons (.c (.str "drop")) (.cons (.prim true .tup (.cons (.c (.int (1))) .nil)) .nil)) .nil []) a___call__ (.cons (.v 6) .nil) .nil []) a_text) .nil))))))
  (.cons (.asg (.name 1) (.bin false .add (.v 1) (.prim true .lst (.cons (.prim true .ix (.cons (.calo (.mk c_Step (.cons (.c (.str "widen")) (.cons (.prim true .tup (.cons (.c (.int (1))) (.cons (.c (.int (0))) .nil))) .nil)) .nil []) a___call__ (.cons (.v 6) .nil) .nil []) (.cons (.c (.int (299))) .nil))) (.cons (.prim true .ix (.cons (.calo (.mk c_Step (.cons (.c (.str "shift")) (.cons (.prim true .tup (.cons (.c (.int (5))) .nil)) .nil)) .nil []) a___call__ (.cons (.v 6) .nil) .nil []) (.cons (.c (.int (299))) .nil))) .nil)))))
  (.cons (.ret (.call i__law_same (.cons (.v 1) (.cons (.bin true .add (.v 2) (.prim true .lst (.cons (.prim true .tup (.cons (.prim true .tup (.cons (.c (.int (0))) (.cons (.c (.int (898))) .nil))) .nil)) (.cons (.c (.int (300))) (.cons (.c (.str "-")) (.cons (.prim true .tup (.cons (.c (.int (896))) (.cons (.c (.int (898))) .nil))) (.cons (.prim true .tup (.cons (.c (.int (902))) (.cons (.c (.int (903))) .nil))) .nil))))))) .nil)) .nil [])) .nil))))))))))))))))))))))))
def F__law_by_hand_right : FnI := ⟨0, 10, [], false, true, [1], B__law_by_hand_right⟩
def B__law_right : Ss :=
  (.cons (.if_ (.not_ (.e (.call i__law_by_hand_right .nil .nil [])))
    (.cons (.ret (.c (.bl false))) .nil) .nil)
  (.cons (.for_ (.name 1) (.range (.cons (.c (.int (10))) .nil))
    (.cons (.asg (.name 2) (.call i__law_met (.cons (.call i__law_pairs (.cons (.v 0) (.cons (.c (.int (8))) (.cons (.c (.int (9))) .nil))) .nil []) .nil) .nil []))
    (.cons (.asg (.names [3, 4]) (.call i__law_stage (.cons (.v 0) (.cons (.c (.int (6))) .nil)) .nil []))
    (.cons (.asg (.name 5) (.mk c_Row (.cons (.v 2) .nil) .nil []))
    (.cons (.asg (.name 6) (.calo (.mk c_Step (.cons (.v 3) (.cons (.v 4) .nil)) .nil []) a___call__ .nil (.cons (.v 5) .nil) [0, 1]))
    (.cons (.asg (.name 7) (.comp true (.v 9) [8, 9] (.name 9) (.range (.cons (.prim true .neg (.cons (.c (.int (30))) .nil)) (.cons (.c (.int (200))) .nil))) (.e (.call i__law_is_in (.cons (.v 2) (.cons (.v 3) (.cons (.v 4) (.cons (.v 9) .nil)))) .nil []))))
    (.cons (.if_ (.not_ (.e (.call i__law_same (.cons (.prim true .lst (.cons (.attr (.v 6) a_spans) (.cons (.attr (.v 5) a_spans) .nil))) (.cons (.prim true .lst (.cons (.call i__law_gathered (.cons (.v 7) .nil) .nil []) (.cons (.v 2) .nil))) .nil)) .nil [])))
      (.cons (.ret (.c (.bl false))) .nil) .nil) .nil)))))))
  (.cons (.ret (.c (.bl true))) .nil)))
def F__law_right : FnI := ⟨1, 10, [], true, true, [0], B__law_right⟩
def B_law : Ss :=
  (.cons (.asg (.name 1) (.call i__law_cells (.cons (.v 0) (.cons (.c (.int (3))) .nil)) .nil []))
  (.cons (.ret (.prim true .all (.cons (.comp true (.call i__law_right (.cons (.call i__law_box (.cons (.v 1) (.cons (.v 3) .nil)) .nil []) .nil) .nil []) [2, 3] (.name 3) (.range (.cons (.prim true .len (.cons (.v 1) .nil)) .nil)) .yes) .nil))) .nil))
def F_law : FnI := ⟨1, 4, [], false, true, [], B_law⟩
def G : Gs := ⟨[F_is_number, F_pair_of, F_tupled, F_number_in, F_joined, F_in_both, F_left_over, F_Row___init__, F_Row_spans, F_Row_text, F_Row___len__, F_Row___getitem__, F_Row___sub__, F_Row___rshift__, F_Row___eq__, F_is_good, F_filled, F_moved, F_Step___init__, F_Step_of, F_Step_kind, F_Step_amounts, F_Step_text, F_Step___call__, F_Step___eq__, F_edges_of, F__law_box, F__law_take, F__law_cells, F__law_of, F__law_same, F__law_mixed, F__law_pairs, F__law_gathered, F__law_met, F__law_stage, F__law_is_in, F__law_by_hand_right, F__law_right, F_law], [⟨i_Row___init__, [(a___len__, i_Row___len__), (a___getitem__, i_Row___getitem__), (a___sub__, i_Row___sub__), (a___rshift__, i_Row___rshift__), (a___eq__, i_Row___eq__)], [(a_spans, i_Row_spans), (a_text, i_Row_text)], [a_own_spans]⟩, ⟨i_Step___init__, [(a___call__, i_Step___call__), (a___eq__, i_Step___eq__)], [(a_kind, i_Step_kind), (a_amounts, i_Step_amounts), (a_text, i_Step_text)], [a_own_kind, a_own_amounts]⟩]⟩
@[simp] theorem g_is_number : G.fns[i_is_number]? = some F_is_number := rfl
@[simp] theorem g_pair_of : G.fns[i_pair_of]? = some F_pair_of := rfl
@[simp] theorem g_tupled : G.fns[i_tupled]? = some F_tupled := rfl
@[simp] theorem g_number_in : G.fns[i_number_in]? = some F_number_in := rfl
@[simp] theorem g_joined : G.fns[i_joined]? = some F_joined := rfl
@[simp] theorem g_in_both : G.fns[i_in_both]? = some F_in_both := rfl
@[simp] theorem g_left_over : G.fns[i_left_over]? = some F_left_over := rfl
@[simp] theorem g_Row___init__ : G.fns[i_Row___init__]? = some F_Row___init__ := rfl
@[simp] theorem g_Row_spans : G.fns[i_Row_spans]? = some F_Row_spans := rfl
@[simp] theorem g_Row_text : G.fns[i_Row_text]? = some F_Row_text := rfl
@[simp] theorem g_Row___len__ : G.fns[i_Row___len__]? = some F_Row___len__ := rfl
@[simp] theorem g_Row___getitem__ : G.fns[i_Row___getitem__]? = some F_Row___getitem__ := rfl
@[simp] theorem g_Row___sub__ : G.fns[i_Row___sub__]? = some F_Row___sub__ := rfl
@[simp] theorem g_Row___rshift__ : G.fns[i_Row___rshift__]? = some F_Row___rshift__ := rfl
@[simp] theorem g_Row___eq__ : G.fns[i_Row___eq__]? = some F_Row___eq__ := rfl
@[simp] theorem g_is_good : G.fns[i_is_good]? = some F_is_good := rfl
@[simp] theorem g_filled : G.fns[i_filled]? = some F_filled := rfl
@[simp] theorem g_moved : G.fns[i_moved]? = some F_moved := rfl
@[simp] theorem g_Step___init__ : G.fns[i_Step___init__]? = some F_Step___init__ := rfl
@[simp] theorem g_Step_of : G.fns[i_Step_of]? = some F_Step_of := rfl
@[simp] theorem g_Step_kind : G.fns[i_Step_kind]? = some F_Step_kind := rfl
@[simp] theorem g_Step_amounts : G.fns[i_Step_amounts]? = some F_Step_amounts := rfl
@[simp] theorem g_Step_text : G.fns[i_Step_text]? = some F_Step_text := rfl
@[simp] theorem g_Step___call__ : G.fns[i_Step___call__]? = some F_Step___call__ := rfl
@[simp] theorem g_Step___eq__ : G.fns[i_Step___eq__]? = some F_Step___eq__ := rfl
@[simp] theorem g_edges_of : G.fns[i_edges_of]? = some F_edges_of := rfl
@[simp] theorem g__law_box : G.fns[i__law_box]? = some F__law_box := rfl
@[simp] theorem g__law_take : G.fns[i__law_take]? = some F__law_take := rfl
@[simp] theorem g__law_cells : G.fns[i__law_cells]? = some F__law_cells := rfl
@[simp] theorem g__law_of : G.fns[i__law_of]? = some F__law_of := rfl
@[simp] theorem g__law_same : G.fns[i__law_same]? = some F__law_same := rfl
@[simp] theorem g__law_mixed : G.fns[i__law_mixed]? = some F__law_mixed := rfl
@[simp] theorem g__law_pairs : G.fns[i__law_pairs]? = some F__law_pairs := rfl
@[simp] theorem g__law_gathered : G.fns[i__law_gathered]? = some F__law_gathered := rfl
@[simp] theorem g__law_met : G.fns[i__law_met]? = some F__law_met := rfl
@[simp] theorem g__law_stage : G.fns[i__law_stage]? = some F__law_stage := rfl
@[simp] theorem g__law_is_in : G.fns[i__law_is_in]? = some F__law_is_in := rfl
@[simp] theorem g__law_by_hand_right : G.fns[i__law_by_hand_right]? = some F__law_by_hand_right := rfl
@[simp] theorem g__law_right : G.fns[i__law_right]? = some F__law_right := rfl
@[simp] theorem g_law : G.fns[i_law]? = some F_law := rfl
@[simp] theorem cv0 (call : Nat → List PV → SH → R PV) (x0 : PV) (s : SH) : callV G call i_Row_spans [x0] [] s = call i_Row_spans [x0] s := rfl
@[simp] theorem cv1 (call : Nat → List PV → SH → R PV) (x0 : PV) (s : SH) : callV G call i_Row_text [x0] [] s = call i_Row_text [x0] s := rfl
@[simp] theorem cv2 (call : Nat → List PV → SH → R PV) (x0 : PV) (s : SH) : callV G call i_Row___len__ [x0] [] s = call i_Row___len__ [x0] s := rfl
@[simp] theorem cv3 (call : Nat → List PV → SH → R PV) (x0 x1 : PV) (s : SH) : callV G call i_Row___getitem__ [x0, x1] [] s = call i_Row___getitem__ [x0, x1] s := rfl
@[simp] theorem cv4 (call : Nat → List PV → SH → R PV) (x0 x1 : PV) (s : SH) : callV G call i_Row___sub__ [x0, x1] [] s = call i_Row___sub__ [x0, x1] s := rfl
@[simp] theorem cv5 (call : Nat → List PV → SH → R PV) (x0 x1 : PV) (s : SH) : callV G call i_Row___rshift__ [x0, x1] [] s = call i_Row___rshift__ [x0, x1] s := rfl
@[simp] theorem cv6 (call : Nat → List PV → SH → R PV) (x0 x1 : PV) (s : SH) : callV G call i_Row___eq__ [x0, x1] [] s = call i_Row___eq__ [x0, x1] s := rfl
@[simp] theorem cv7 (call : Nat → List PV → SH → R PV) (x0 : PV) (s : SH) : callV G call i_Step_kind [x0] [] s = call i_Step_kind [x0] s := rfl
@[simp] theorem cv8 (call : Nat → List PV → SH → R PV) (x0 : PV) (s : SH) : callV G call i_Step_amounts [x0] [] s = call i_Step_amounts [x0] s := rfl
@[simp] theorem cv9 (call : Nat → List PV → SH → R PV) (x0 : PV) (s : SH) : callV G call i_Step_text [x0] [] s = call i_Step_text [x0] s := rfl
@[simp] theorem cv10 (call : Nat → List PV → SH → R PV) (x0 x1 : PV) (s : SH) : callV G call i_Step___eq__ [x0, x1] [] s = call i_Step___eq__ [x0, x1] s := rfl
@[simp] theorem cv11 (call : Nat → List PV → SH → R PV) (x0 : PV) (s : SH) : callV G call i_tupled [x0] [] s = call i_tupled [x0] s := rfl
@[simp] theorem cv12 (call : Nat → List PV → SH → R PV) (x0 x1 : PV) (s : SH) : callV G call i_in_both [x0, x1] [] s = call i_in_both [x0, x1] s := rfl
@[simp] theorem cv13 (call : Nat → List PV → SH → R PV) (x0 : PV) (s : SH) : callV G call i_pair_of [x0] [] s = call i_pair_of [x0] s := rfl
@[simp] theorem cv14 (call : Nat → List PV → SH → R PV) (x0 : PV) (s : SH) : callV G call i_joined [x0] [] s = call i_joined [x0] s := rfl
@[simp] theorem cv15 (call : Nat → List PV → SH → R PV) (x0 x1 : PV) (s : SH) : callV G call i_Row___init__ [x0, x1] [] s = call i_Row___init__ [x0, x1] s := rfl
@[simp] theorem cv16 (call : Nat → List PV → SH → R PV) (x0 x1 : PV) (s : SH) : callV G call i_left_over [x0, x1] [] s = call i_left_over [x0, x1] s := rfl
@[simp] theorem cv17 (call : Nat → List PV → SH → R PV) (x0 : PV) (s : SH) : callV G call i_is_number [x0] [] s = call i_is_number [x0] s := rfl
@[simp] theorem cv18 (call : Nat → List PV → SH → R PV) (x0 x1 : PV) (s : SH) : callV G call i_is_good [x0, x1] [] s = call i_is_good [x0, x1] s := rfl
@[simp] theorem cv19 (call : Nat → List PV → SH → R PV) (x0 : PV) (s : SH) : callV G call i_number_in [x0] [] s = call i_number_in [x0] s := rfl
@[simp] theorem cv20 (call : Nat → List PV → SH → R PV) (x0 x1 x2 : PV) (s : SH) : callV G call i_Step___init__ [x0, x1, x2] [] s = call i_Step___init__ [x0, x1, x2] s := rfl
@[simp] theorem cv21 (call : Nat → List PV → SH → R PV) (x0 x1 : PV) (s : SH) : callV G call i_filled [x0, x1] [] s = call i_filled [x0, x1] s := rfl
@[simp] theorem cv22 (call : Nat → List PV → SH → R PV) (x0 : PV) (s : SH) : callV G call i_edges_of [x0] [] s = call i_edges_of [x0] s := rfl
@[simp] theorem cv23 (call : Nat → List PV → SH → R PV) (x0 x1 x2 : PV) (s : SH) : callV G call i_moved [x0, x1, x2] [] s = call i_moved [x0, x1, x2] s := rfl
@[simp] theorem cv24 (call : Nat → List PV → SH → R PV) (x0 x1 : PV) (s : SH) : callV G call i__law_take [x0, x1] [] s = call i__law_take [x0, x1] s := rfl
@[simp] theorem cv25 (call : Nat → List PV → SH → R PV) (x0 x1 : PV) (s : SH) : callV G call i__law_same [x0, x1] [] s = call i__law_same [x0, x1] s := rfl
@[simp] theorem cv26 (call : Nat → List PV → SH → R PV) (x0 x1 : PV) (s : SH) : callV G call i__law_of [x0, x1] [] s = call i__law_of [x0, x1] s := rfl
@[simp] theorem cv27 (call : Nat → List PV → SH → R PV) (x0 x1 : PV) (s : SH) : callV G call i__law_mixed [x0, x1] [] s = call i__law_mixed [x0, x1] s := rfl
@[simp] theorem cv28 (call : Nat → List PV → SH → R PV) (x0 x1 : PV) (s : SH) : callV G call i_Step___call__ [x0, x1] [] s = call i_Step___call__ [x0, x1] s := rfl
@[simp] theorem cv29 (call : Nat → List PV → SH → R PV) (x0 : PV) (s : SH) : callV G call i_Row___init__ [x0] [] s = call i_Row___init__ [x0, (.tup [])] s := rfl
@[simp] theorem cv30 (call : Nat → List PV → SH → R PV) (x0 : PV) (s : SH) : callV G call i_Step_of [x0] [] s = call i_Step_of [x0] s := rfl
@[simp] theorem cv31 (call : Nat → List PV → SH → R PV) (s : SH) : callV G call i__law_by_hand_right [] [] s = call i__law_by_hand_right [] s := rfl
@[simp] theorem cv32 (call : Nat → List PV → SH → R PV) (x0 : PV) (s : SH) : callV G call i__law_met [x0] [] s = call i__law_met [x0] s := rfl
@[simp] theorem cv33 (call : Nat → List PV → SH → R PV) (x0 x1 x2 : PV) (s : SH) : callV G call i__law_pairs [x0, x1, x2] [] s = call i__law_pairs [x0, x1, x2] s := rfl
@[simp] theorem cv34 (call : Nat → List PV → SH → R PV) (x0 x1 : PV) (s : SH) : callV G call i__law_stage [x0, x1] [] s = call i__law_stage [x0, x1] s := rfl
@[simp] theorem cv35 (call : Nat → List PV → SH → R PV) (x0 x1 : PV) (s : SH) : callV G call i_Step___call__ [x0, x1] [0, 1] s = call i_Step___call__ [x0, x1] s := rfl
@[simp] theorem cv36 (call : Nat → List PV → SH → R PV) (x0 x1 x2 x3 : PV) (s : SH) : callV G call i__law_is_in [x0, x1, x2, x3] [] s = call i__law_is_in [x0, x1, x2, x3] s := rfl
@[simp] theorem cv37 (call : Nat → List PV → SH → R PV) (x0 : PV) (s : SH) : callV G call i__law_gathered [x0] [] s = call i__law_gathered [x0] s := rfl
@[simp] theorem cv38 (call : Nat → List PV → SH → R PV) (x0 x1 : PV) (s : SH) : callV G call i__law_cells [x0, x1] [] s = call i__law_cells [x0, x1] s := rfl
@[simp] theorem cv39 (call : Nat → List PV → SH → R PV) (x0 : PV) (s : SH) : callV G call i__law_right [x0] [] s = call i__law_right [x0] s := rfl
@[simp] theorem cv40 (call : Nat → List PV → SH → R PV) (x0 x1 : PV) (s : SH) : callV G call i__law_box [x0, x1] [] s = call i__law_box [x0, x1] s := rfl
@[simp] theorem at_Row_spans (call : Nat → List PV → SH → R PV) (vs : List PV) (s : SH) : attrV G call a_spans (.obj c_Row vs) s = call i_Row_spans [.obj c_Row vs] s := rfl
@[simp] theorem at_Row_text (call : Nat → List PV → SH → R PV) (vs : List PV) (s : SH) : attrV G call a_text (.obj c_Row vs) s = call i_Row_text [.obj c_Row vs] s := rfl
@[simp] theorem mf_Row___len__ (x0 : PV) (s : SH) : methFind G a___len__ (.obj c_Row [x0]) s = some i_Row___len__ := rfl
@[simp] theorem mf_Row___getitem__ (x0 : PV) (s : SH) : methFind G a___getitem__ (.obj c_Row [x0]) s = some i_Row___getitem__ := rfl
@[simp] theorem mf_Row___sub__ (x0 : PV) (s : SH) : methFind G a___sub__ (.obj c_Row [x0]) s = some i_Row___sub__ := rfl
@[simp] theorem bo_Row___sub__ (call : Nat → List PV → SH → R PV) (z : Bool) (xs ys : List PV) (s : SH) : binV G call z .sub (.obj c_Row xs) (.obj c_Row ys) s = call i_Row___sub__ [.obj c_Row xs, .obj c_Row ys] s := rfl
@[simp] theorem boi_Row___sub__ (call : Nat → List PV → SH → R PV) (z : Bool) (xs : List PV) (y : Int) (s : SH) : binV G call z .sub (.obj c_Row xs) (.int y) s = call i_Row___sub__ [.obj c_Row xs, .int y] s := rfl
@[simp] theorem mf_Row___rshift__ (x0 : PV) (s : SH) : methFind G a___rshift__ (.obj c_Row [x0]) s = some i_Row___rshift__ := rfl
@[simp] theorem bo_Row___rshift__ (call : Nat → List PV → SH → R PV) (z : Bool) (xs ys : List PV) (s : SH) : binV G call z .shr (.obj c_Row xs) (.obj c_Row ys) s = call i_Row___rshift__ [.obj c_Row xs, .obj c_Row ys] s := rfl
@[simp] theorem boi_Row___rshift__ (call : Nat → List PV → SH → R PV) (z : Bool) (xs : List PV) (y : Int) (s : SH) : binV G call z .shr (.obj c_Row xs) (.int y) s = call i_Row___rshift__ [.obj c_Row xs, .int y] s := rfl
@[simp] theorem mf_Row___eq__ (x0 : PV) (s : SH) : methFind G a___eq__ (.obj c_Row [x0]) s = some i_Row___eq__ := rfl
@[simp] theorem eqo_Row (call : Nat → List PV → SH → R PV) (xs ys : List PV) (s : SH) : cmpV G call .eq (.obj c_Row xs) (.obj c_Row ys) s = call i_Row___eq__ [.obj c_Row xs, .obj c_Row ys] s := rfl
@[simp] theorem neo_Row (call : Nat → List PV → SH → R PV) (xs ys : List PV) (s : SH) : cmpV G call .ne (.obj c_Row xs) (.obj c_Row ys) s = (call i_Row___eq__ [.obj c_Row xs, .obj c_Row ys] s).bind notV := rfl
@[simp] theorem at_Row_own_spans (call : Nat → List PV → SH → R PV) (x0 : PV) (s : SH) : attrV G call a_own_spans (.obj c_Row [x0]) s = .ok x0 s := rfl
@[simp] theorem fo_Row_own_spans : fldOk G c_Row a_own_spans = true := rfl
@[simp] theorem at_Step_kind (call : Nat → List PV → SH → R PV) (vs : List PV) (s : SH) : attrV G call a_kind (.obj c_Step vs) s = call i_Step_kind [.obj c_Step vs] s := rfl
@[simp] theorem at_Step_amounts (call : Nat → List PV → SH → R PV) (vs : List PV) (s : SH) : attrV G call a_amounts (.obj c_Step vs) s = call i_Step_amounts [.obj c_Step vs] s := rfl
@[simp] theorem at_Step_text (call : Nat → List PV → SH → R PV) (vs : List PV) (s : SH) : attrV G call a_text (.obj c_Step vs) s = call i_Step_text [.obj c_Step vs] s := rfl
@[simp] theorem mf_Step___call__ (x0 x1 : PV) (s : SH) : methFind G a___call__ (.obj c_Step [x0, x1]) s = some i_Step___call__ := rfl
@[simp] theorem mf_Step___eq__ (x0 x1 : PV) (s : SH) : methFind G a___eq__ (.obj c_Step [x0, x1]) s = some i_Step___eq__ := rfl
@[simp] theorem eqo_Step (call : Nat → List PV → SH → R PV) (xs ys : List PV) (s : SH) : cmpV G call .eq (.obj c_Step xs) (.obj c_Step ys) s = call i_Step___eq__ [.obj c_Step xs, .obj c_Step ys] s := rfl
@[simp] theorem neo_Step (call : Nat → List PV → SH → R PV) (xs ys : List PV) (s : SH) : cmpV G call .ne (.obj c_Step xs) (.obj c_Step ys) s = (call i_Step___eq__ [.obj c_Step xs, .obj c_Step ys] s).bind notV := rfl
@[simp] theorem at_Step_own_kind (call : Nat → List PV → SH → R PV) (x0 x1 : PV) (s : SH) : attrV G call a_own_kind (.obj c_Step [x0, x1]) s = .ok x0 s := rfl
@[simp] theorem fo_Step_own_kind : fldOk G c_Step a_own_kind = true := rfl
@[simp] theorem at_Step_own_amounts (call : Nat → List PV → SH → R PV) (x0 x1 : PV) (s : SH) : attrV G call a_own_amounts (.obj c_Step [x0, x1]) s = .ok x1 s := rfl
@[simp] theorem fo_Step_own_amounts : fldOk G c_Step a_own_amounts = true := rfl
end LK
end LKa_

section LKb_
set_option maxRecDepth 100000
set_option maxHeartbeats 0
namespace LK
open CS L2 PySem
def top (i : Nat) : Stmt := PySem.Challenge.pw_cleanspans_k05_what_one_step_makes.main.body.getD i (.Pass ⟨0, 0, 0, 0⟩)
def C : Cc where
  nm := [("__eq__" : PySem.Str), ("__or__" : PySem.Str), ("__and__" : PySem.Str), ("__sub__" : PySem.Str), ("__rshift__" : PySem.Str), ("__lshift__" : PySem.Str), ("__mul__" : PySem.Str), ("__call__" : PySem.Str), ("__len__" : PySem.Str), ("__getitem__" : PySem.Str), ("__contains__" : PySem.Str), ("startswith" : PySem.Str), ("append" : PySem.Str), ("own_spans" : PySem.Str), ("join" : PySem.Str), ("spans" : PySem.Str), ("own_kind" : PySem.Str), ("own_amounts" : PySem.Str), ("split" : PySem.Str), ("kind" : PySem.Str), ("amounts" : PySem.Str), ("pop" : PySem.Str), ("text" : PySem.Str), ("of" : PySem.Str)]
  fns := [(("is_number" : PySem.Str), 0, [("thing" : PySem.Str)]), (("pair_of" : PySem.Str), 1, [("pair" : PySem.Str)]), (("tupled" : PySem.Str), 2, [("thing" : PySem.Str)]), (("number_in" : PySem.Str), 3, [("text" : PySem.Str)]), (("joined" : PySem.Str), 4, [("pairs" : PySem.Str)]), (("in_both" : PySem.Str), 5, [("mine" : PySem.Str), ("its" : PySem.Str)]), (("left_over" : PySem.Str), 6, [("mine" : PySem.Str), ("its" : PySem.Str)]), (("is_good" : PySem.Str), 15, [("kind" : PySem.Str), ("amounts" : PySem.Str)]), (("filled" : PySem.Str), 16, [("spans" : PySem.Str), ("gap" : PySem.Str)]), (("moved" : PySem.Str), 17, [("spans" : PySem.Str), ("ahead" : PySem.Str), ("after" : PySem.Str)]), (("edges_of" : PySem.Str), 25, [("step" : PySem.Str)]), (("_law_box" : PySem.Str), 26, [("_law_script" : PySem.Str), ("_law_k" : PySem.Str)]), (("_law_take" : PySem.Str), 27, [("_law_urn" : PySem.Str), ("_law_low_so" : PySem.Str)]), (("_law_cells" : PySem.Str), 28, [("_law_script" : PySem.Str), ("_law_top" : PySem.Str)]), (("_law_of" : PySem.Str), 29, [("_law_urn" : PySem.Str), ("_law_some_so" : PySem.Str)]), (("_law_same" : PySem.Str), 30, [("_law_got" : PySem.Str), ("_law_goal" : PySem.Str)]), (("_law_mixed" : PySem.Str), 31, [("_law_urn" : PySem.Str), ("_law_pool" : PySem.Str)]), (("_law_pairs" : PySem.Str), 32, [("_law_urn" : PySem.Str), ("_law_most_so" : PySem.Str), ("_law_wide_so" : PySem.Str)]), (("_law_gathered" : PySem.Str), 33, [("_law_times_so" : PySem.Str)]), (("_law_met" : PySem.Str), 34, [("_law_pairs_so" : PySem.Str)]), (("_law_stage" : PySem.Str), 35, [("_law_urn" : PySem.Str), ("_law_most_so" : PySem.Str)]), (("_law_is_in" : PySem.Str), 36, [("_law_pairs_so" : PySem.Str), ("_law_kind_so" : PySem.Str), ("_law_much" : PySem.Str), ("_law_beat" : PySem.Str)]), (("_law_by_hand_right" : PySem.Str), 37, []), (("_law_right" : PySem.Str), 38, [("_law_urn" : PySem.Str)]), (("law" : PySem.Str), 39, [("_law_script" : PySem.Str)])]
  cls := [("Row", 0, 7, [("pairs" : PySem.Str)]), ("Step", 1, 18, [("kind" : PySem.Str), ("amounts" : PySem.Str)])]
  consts := []
  bis := ["len", "abs", "int", "str", "max", "min", "sum", "all", "any", "tuple", "list", "sorted", "isinstance", "range", "zip", "enumerate", "bool", "set"]
  bs := [(8, 1, [], []), (9, 1, [], []), (10, 1, [], []), (11, 2, [], []), (12, 2, [], []), (13, 2, [], []), (14, 2, [], []), (20, 1, [], []), (21, 1, [], []), (22, 1, [], []), (24, 2, [], []), (2, 1, [], []), (5, 2, [], []), (1, 1, [], []), (4, 1, [], []), (7, 2, [], []), (6, 2, [], []), (0, 1, [], []), (15, 2, [], []), (3, 1, [], []), (18, 3, [], []), (16, 2, [], []), (25, 1, [], []), (17, 3, [], []), (27, 2, [], []), (30, 2, [], []), (29, 2, [], []), (31, 2, [], []), (23, 2, [], []), (7, 1, [], []), (19, 1, [], []), (37, 0, [], []), (34, 1, [], []), (32, 3, [], []), (35, 2, [], []), (23, 1, [("row" : PySem.Str)], [0, 1]), (36, 4, [], []), (33, 1, [], []), (28, 2, [], []), (38, 1, [], []), (26, 2, [], [])]
  ms := [(0, [14, 24]), (3, [12]), (4, [13]), (7, [23]), (8, [10]), (9, [11])]
  ds := [("AMOUNTS", [("fill", (.int (1))), ("drop", (.int (1))), ("widen", (.int (2))), ("trim", (.int (2))), ("shift", (.int (1)))])]
  sm := [(("Step", "of"), 19)]
def d_is_number : He5.DefA := ⟨fun K => He.fAd K ("is_number", none), "is_number", "is_number", defArgs (top 7), defBody (top 7), defScope (top 7), [], []⟩
def d_pair_of : He5.DefA := ⟨fun K => He.fAd K ("pair_of", none), "pair_of", "pair_of", defArgs (top 8), defBody (top 8), defScope (top 8), [], []⟩
def d_tupled : He5.DefA := ⟨fun K => He.fAd K ("tupled", none), "tupled", "tupled", defArgs (top 9), defBody (top 9), defScope (top 9), [], []⟩
def d_number_in : He5.DefA := ⟨fun K => He.fAd K ("number_in", none), "number_in", "number_in", defArgs (top 10), defBody (top 10), defScope (top 10), [], []⟩
def d_joined : He5.DefA := ⟨fun K => He.fAd K ("joined", none), "joined", "joined", defArgs (top 14), defBody (top 14), defScope (top 14), [], []⟩
def d_in_both : He5.DefA := ⟨fun K => He.fAd K ("in_both", none), "in_both", "in_both", defArgs (top 15), defBody (top 15), defScope (top 15), [], []⟩
def d_left_over : He5.DefA := ⟨fun K => He.fAd K ("left_over", none), "left_over", "left_over", defArgs (top 16), defBody (top 16), defScope (top 16), [], []⟩
def d_Row___init__ : He5.DefA := ⟨fun K => He.fAd K ("Row", some "__init__"), "__init__", "Row.__init__", defArgs (inClass (top 17) 0), defBody (inClass (top 17) 0), defScope (inClass (top 17) 0), [.adr (He.dflAt ("Row", some "__init__") 0)], []⟩
def d_Row_spans : He5.DefA := ⟨getAt "Row" "spans", "spans", "Row.spans", defArgs (inClass (top 17) 2), defBody (inClass (top 17) 2), defScope (inClass (top 17) 2), [], []⟩
def d_Row_text : He5.DefA := ⟨getAt "Row" "text", "text", "Row.text", defArgs (inClass (top 17) 3), defBody (inClass (top 17) 3), defScope (inClass (top 17) 3), [], []⟩
def d_Row___len__ : He5.DefA := ⟨fun K => He.fAd K ("Row", some "__len__"), "__len__", "Row.__len__", defArgs (inClass (top 17) 9), defBody (inClass (top 17) 9), defScope (inClass (top 17) 9), [], []⟩
def d_Row___getitem__ : He5.DefA := ⟨fun K => He.fAd K ("Row", some "__getitem__"), "__getitem__", "Row.__getitem__", defArgs (inClass (top 17) 10), defBody (inClass (top 17) 10), defScope (inClass (top 17) 10), [], []⟩
def d_Row___sub__ : He5.DefA := ⟨fun K => He.fAd K ("Row", some "__sub__"), "__sub__", "Row.__sub__", defArgs (inClass (top 17) 15), defBody (inClass (top 17) 15), defScope (inClass (top 17) 15), [], []⟩
def d_Row___rshift__ : He5.DefA := ⟨fun K => He.fAd K ("Row", some "__rshift__"), "__rshift__", "Row.__rshift__", defArgs (inClass (top 17) 16), defBody (inClass (top 17) 16), defScope (inClass (top 17) 16), [], []⟩
def d_Row___eq__ : He5.DefA := ⟨fun K => He.fAd K ("Row", some "__eq__"), "__eq__", "Row.__eq__", defArgs (inClass (top 17) 18), defBody (inClass (top 17) 18), defScope (inClass (top 17) 18), [], []⟩
def d_is_good : He5.DefA := ⟨fun K => He.fAd K ("is_good", none), "is_good", "is_good", defArgs (top 20), defBody (top 20), defScope (top 20), [], []⟩
def d_filled : He5.DefA := ⟨fun K => He.fAd K ("filled", none), "filled", "filled", defArgs (top 21), defBody (top 21), defScope (top 21), [], []⟩
def d_moved : He5.DefA := ⟨fun K => He.fAd K ("moved", none), "moved", "moved", defArgs (top 22), defBody (top 22), defScope (top 22), [], []⟩
def d_Step___init__ : He5.DefA := ⟨fun K => He.fAd K ("Step", some "__init__"), "__init__", "Step.__init__", defArgs (inClass (top 23) 0), defBody (inClass (top 23) 0), defScope (inClass (top 23) 0), [], []⟩
def d_Step_of : He5.DefA := ⟨smAt "Step" "of", "of", "Step.of", defArgs (inClass (top 23) 1), defBody (inClass (top 23) 1), defScope (inClass (top 23) 1), [], []⟩
def d_Step_kind : He5.DefA := ⟨getAt "Step" "kind", "kind", "Step.kind", defArgs (inClass (top 23) 2), defBody (inClass (top 23) 2), defScope (inClass (top 23) 2), [], []⟩
def d_Step_amounts : He5.DefA := ⟨getAt "Step" "amounts", "amounts", "Step.amounts", defArgs (inClass (top 23) 3), defBody (inClass (top 23) 3), defScope (inClass (top 23) 3), [], []⟩
def d_Step_text : He5.DefA := ⟨getAt "Step" "text", "text", "Step.text", defArgs (inClass (top 23) 4), defBody (inClass (top 23) 4), defScope (inClass (top 23) 4), [], []⟩
def d_Step___call__ : He5.DefA := ⟨fun K => He.fAd K ("Step", some "__call__"), "__call__", "Step.__call__", defArgs (inClass (top 23) 5), defBody (inClass (top 23) 5), defScope (inClass (top 23) 5), [], []⟩
def d_Step___eq__ : He5.DefA := ⟨fun K => He.fAd K ("Step", some "__eq__"), "__eq__", "Step.__eq__", defArgs (inClass (top 23) 6), defBody (inClass (top 23) 6), defScope (inClass (top 23) 6), [], []⟩
def d_edges_of : He5.DefA := ⟨fun K => He.fAd K ("edges_of", none), "edges_of", "edges_of", defArgs (top 24), defBody (top 24), defScope (top 24), [], []⟩
def d__law_box : He5.DefA := ⟨fun K => He.fAd K ("_law_box", none), "_law_box", "_law_box", defArgs (top 26), defBody (top 26), defScope (top 26), [], []⟩
def d__law_take : He5.DefA := ⟨fun K => He.fAd K ("_law_take", none), "_law_take", "_law_take", defArgs (top 27), defBody (top 27), defScope (top 27), [], []⟩
def d__law_cells : He5.DefA := ⟨fun K => He.fAd K ("_law_cells", none), "_law_cells", "_law_cells", defArgs (top 28), defBody (top 28), defScope (top 28), [], []⟩
def d__law_of : He5.DefA := ⟨fun K => He.fAd K ("_law_of", none), "_law_of", "_law_of", defArgs (top 29), defBody (top 29), defScope (top 29), [], []⟩
def d__law_same : He5.DefA := ⟨fun K => He.fAd K ("_law_same", none), "_law_same", "_law_same", defArgs (top 30), defBody (top 30), defScope (top 30), [], []⟩
def d__law_mixed : He5.DefA := ⟨fun K => He.fAd K ("_law_mixed", none), "_law_mixed", "_law_mixed", defArgs (top 31), defBody (top 31), defScope (top 31), [], []⟩
def d__law_pairs : He5.DefA := ⟨fun K => He.fAd K ("_law_pairs", none), "_law_pairs", "_law_pairs", defArgs (top 32), defBody (top 32), defScope (top 32), [], []⟩
def d__law_gathered : He5.DefA := ⟨fun K => He.fAd K ("_law_gathered", none), "_law_gathered", "_law_gathered", defArgs (top 33), defBody (top 33), defScope (top 33), [], []⟩
def d__law_met : He5.DefA := ⟨fun K => He.fAd K ("_law_met", none), "_law_met", "_law_met", defArgs (top 34), defBody (top 34), defScope (top 34), [], []⟩
def d__law_stage : He5.DefA := ⟨fun K => He.fAd K ("_law_stage", none), "_law_stage", "_law_stage", defArgs (top 35), defBody (top 35), defScope (top 35), [], []⟩
def d__law_is_in : He5.DefA := ⟨fun K => He.fAd K ("_law_is_in", none), "_law_is_in", "_law_is_in", defArgs (top 36), defBody (top 36), defScope (top 36), [], []⟩
def d__law_by_hand_right : He5.DefA := ⟨fun K => He.fAd K ("_law_by_hand_right", none), "_law_by_hand_right", "_law_by_hand_right", defArgs (top 37), defBody (top 37), defScope (top 37), [], []⟩
def d__law_right : He5.DefA := ⟨fun K => He.fAd K ("_law_right", none), "_law_right", "_law_right", defArgs (top 38), defBody (top 38), defScope (top 38), [], []⟩
def d_law : He5.DefA := ⟨fun K => He.fAd K ("law", none), "law", "law", defArgs (top 39), defBody (top 39), defScope (top 39), [], []⟩
def defs : List He5.DefA := [d_is_number, d_pair_of, d_tupled, d_number_in, d_joined, d_in_both, d_left_over, d_Row___init__, d_Row_spans, d_Row_text, d_Row___len__, d_Row___getitem__, d_Row___sub__, d_Row___rshift__, d_Row___eq__, d_is_good, d_filled, d_moved, d_Step___init__, d_Step_of, d_Step_kind, d_Step_amounts, d_Step_text, d_Step___call__, d_Step___eq__, d_edges_of, d__law_box, d__law_take, d__law_cells, d__law_of, d__law_same, d__law_mixed, d__law_pairs, d__law_gathered, d__law_met, d__law_stage, d__law_is_in, d__law_by_hand_right, d__law_right, d_law]
def ps : List (List Str) := [[("thing" : PySem.Str)], [("pair" : PySem.Str)], [("thing" : PySem.Str)], [("text" : PySem.Str)], [("pairs" : PySem.Str)], [("mine" : PySem.Str), ("its" : PySem.Str)], [("mine" : PySem.Str), ("its" : PySem.Str)], [("self" : PySem.Str), ("pairs" : PySem.Str)], [("self" : PySem.Str)], [("self" : PySem.Str)], [("self" : PySem.Str)], [("self" : PySem.Str), ("place" : PySem.Str)], [("self" : PySem.Str), ("other" : PySem.Str)], [("self" : PySem.Str), ("many" : PySem.Str)], [("self" : PySem.Str), ("other" : PySem.Str)], [("kind" : PySem.Str), ("amounts" : PySem.Str)], [("spans" : PySem.Str), ("gap" : PySem.Str)], [("spans" : PySem.Str), ("ahead" : PySem.Str), ("after" : PySem.Str)], [("self" : PySem.Str), ("kind" : PySem.Str), ("amounts" : PySem.Str)], [("text" : PySem.Str)], [("self" : PySem.Str)], [("self" : PySem.Str)], [("self" : PySem.Str)], [("self" : PySem.Str), ("row" : PySem.Str)], [("self" : PySem.Str), ("other" : PySem.Str)], [("step" : PySem.Str)], [("_law_script" : PySem.Str), ("_law_k" : PySem.Str)], [("_law_urn" : PySem.Str), ("_law_low_so" : PySem.Str)], [("_law_script" : PySem.Str), ("_law_top" : PySem.Str)], [("_law_urn" : PySem.Str), ("_law_some_so" : PySem.Str)], [("_law_got" : PySem.Str), ("_law_goal" : PySem.Str)], [("_law_urn" : PySem.Str), ("_law_pool" : PySem.Str)], [("_law_urn" : PySem.Str), ("_law_most_so" : PySem.Str), ("_law_wide_so" : PySem.Str)], [("_law_times_so" : PySem.Str)], [("_law_pairs_so" : PySem.Str)], [("_law_urn" : PySem.Str), ("_law_most_so" : PySem.Str)], [("_law_pairs_so" : PySem.Str), ("_law_kind_so" : PySem.Str), ("_law_much" : PySem.Str), ("_law_beat" : PySem.Str)], [], [("_law_urn" : PySem.Str)], [("_law_script" : PySem.Str)]]
def Ns : List (List Str) := [[("thing" : PySem.Str)], [("pair" : PySem.Str)], [("thing" : PySem.Str), (".0" : PySem.Str), ("part" : PySem.Str)], [("text" : PySem.Str), ("digits" : PySem.Str), ("found" : PySem.Str), (".0" : PySem.Str), ("sign" : PySem.Str)], [("pairs" : PySem.Str), ("found" : PySem.Str), ("first" : PySem.Str), ("behind" : PySem.Str)], [("mine" : PySem.Str), ("its" : PySem.Str), ("found" : PySem.Str), ("one" : PySem.Str), ("other" : PySem.Str), ("first" : PySem.Str), ("behind" : PySem.Str)], [("mine" : PySem.Str), ("its" : PySem.Str), ("edges" : PySem.Str), ("free" : PySem.Str), (".0" : PySem.Str), ("pair" : PySem.Str), ("edge" : PySem.Str), ("at" : PySem.Str)], [("self" : PySem.Str), ("pairs" : PySem.Str), ("pair" : PySem.Str), ("own" : PySem.Str), (".0" : PySem.Str)], [("self" : PySem.Str)], [("self" : PySem.Str), (".0" : PySem.Str), ("first" : PySem.Str), ("behind" : PySem.Str)], [("self" : PySem.Str)], [("self" : PySem.Str), ("place" : PySem.Str)], [("self" : PySem.Str), ("other" : PySem.Str)], [("self" : PySem.Str), ("many" : PySem.Str), (".0" : PySem.Str), ("first" : PySem.Str), ("behind" : PySem.Str)], [("self" : PySem.Str), ("other" : PySem.Str)], [("kind" : PySem.Str), ("amounts" : PySem.Str), (".0" : PySem.Str), ("one" : PySem.Str)], [("spans" : PySem.Str), ("gap" : PySem.Str), ("found" : PySem.Str), ("first" : PySem.Str), ("behind" : PySem.Str)], [("spans" : PySem.Str), ("ahead" : PySem.Str), ("after" : PySem.Str), (".0" : PySem.Str), ("first" : PySem.Str), ("behind" : PySem.Str)], [("self" : PySem.Str), ("kind" : PySem.Str), ("amounts" : PySem.Str), ("own" : PySem.Str)], [("text" : PySem.Str), ("pieces" : PySem.Str), ("amounts" : PySem.Str), (".0" : PySem.Str), ("piece" : PySem.Str)], [("self" : PySem.Str)], [("self" : PySem.Str)], [("self" : PySem.Str), (".0" : PySem.Str), ("one" : PySem.Str)], [("self" : PySem.Str), ("row" : PySem.Str), ("ahead" : PySem.Str), ("after" : PySem.Str), (".0" : PySem.Str), ("pair" : PySem.Str)], [("self" : PySem.Str), ("other" : PySem.Str)], [("step" : PySem.Str)], [("_law_script" : PySem.Str), ("_law_k" : PySem.Str), ("_law_cell" : PySem.Str)], [("_law_urn" : PySem.Str), ("_law_low_so" : PySem.Str), ("_law_drawn" : PySem.Str), ("_law_once" : PySem.Str), ("_law_far" : PySem.Str), ("_law_twice" : PySem.Str)], [("_law_script" : PySem.Str), ("_law_top" : PySem.Str), ("_law_cells_here" : PySem.Str), ("_law_k" : PySem.Str), ("_law_cell" : PySem.Str), ("_law_at_so" : PySem.Str)], [("_law_urn" : PySem.Str), ("_law_some_so" : PySem.Str)], [("_law_got" : PySem.Str), ("_law_goal" : PySem.Str), (".0" : PySem.Str), ("_law_mine_so" : PySem.Str), ("_law_own" : PySem.Str)], [("_law_urn" : PySem.Str), ("_law_pool" : PySem.Str), ("_law_left" : PySem.Str), ("_law_found" : PySem.Str), ("_law_turn" : PySem.Str)], [("_law_urn" : PySem.Str), ("_law_most_so" : PySem.Str), ("_law_wide_so" : PySem.Str), ("_law_found" : PySem.Str), ("_law_here" : PySem.Str), ("_law_turn" : PySem.Str), ("_law_far" : PySem.Str)], [("_law_times_so" : PySem.Str), ("_law_found" : PySem.Str), ("_law_beat" : PySem.Str)], [("_law_pairs_so" : PySem.Str), ("_law_found" : PySem.Str), ("_law_low" : PySem.Str), ("_law_high" : PySem.Str)], [("_law_urn" : PySem.Str), ("_law_most_so" : PySem.Str), ("_law_kind_so" : PySem.Str)], [("_law_pairs_so" : PySem.Str), ("_law_kind_so" : PySem.Str), ("_law_much" : PySem.Str), ("_law_beat" : PySem.Str), ("_law_low" : PySem.Str), ("_law_high" : PySem.Str), ("_law_ahead_so" : PySem.Str), ("_law_after_so" : PySem.Str), (".0" : PySem.Str)], [("_law_host" : PySem.Str), ("_law_got" : PySem.Str), ("_law_goal" : PySem.Str), ("_law_bare" : PySem.Str), ("_law_flats" : PySem.Str), ("_law_far" : PySem.Str), ("_law_wide_so" : PySem.Str), (".0" : PySem.Str), ("_law_flat" : PySem.Str), ("_law_k" : PySem.Str)], [("_law_urn" : PySem.Str), ("_law_turn" : PySem.Str), ("_law_pairs_so" : PySem.Str), ("_law_kind_so" : PySem.Str), ("_law_much" : PySem.Str), ("_law_host" : PySem.Str), ("_law_made" : PySem.Str), ("_law_beats" : PySem.Str), (".0" : PySem.Str), ("_law_beat" : PySem.Str)], [("_law_script" : PySem.Str), ("_law_cells_here" : PySem.Str), (".0" : PySem.Str), ("_law_k" : PySem.Str)]]
def T : Tab := ⟨C, G, ["Row", "Step"], defs, ps, Ns⟩
theorem b0 {K : PySem.W.Frag} {fd : Nat → FuncData} (hf : FdOk T K fd) (hc : chk T K = true) : BindOk (T.pk K fd) K 8 1 [] [] := bind_plain hf (d := d_Row_spans) (F := F_Row_spans) rfl rfl rfl rfl fun _ _ _ _ _ _ us ws h1 h2 => match us, ws, h1, h2 with | [_], [], _, _ => rfl
theorem b1 {K : PySem.W.Frag} {fd : Nat → FuncData} (hf : FdOk T K fd) (hc : chk T K = true) : BindOk (T.pk K fd) K 9 1 [] [] := bind_plain hf (d := d_Row_text) (F := F_Row_text) rfl rfl rfl rfl fun _ _ _ _ _ _ us ws h1 h2 => match us, ws, h1, h2 with | [_], [], _, _ => rfl
theorem b2 {K : PySem.W.Frag} {fd : Nat → FuncData} (hf : FdOk T K fd) (hc : chk T K = true) : BindOk (T.pk K fd) K 10 1 [] [] := bind_plain hf (d := d_Row___len__) (F := F_Row___len__) rfl rfl rfl rfl fun _ _ _ _ _ _ us ws h1 h2 => match us, ws, h1, h2 with | [_], [], _, _ => rfl
theorem b3 {K : PySem.W.Frag} {fd : Nat → FuncData} (hf : FdOk T K fd) (hc : chk T K = true) : BindOk (T.pk K fd) K 11 2 [] [] := bind_plain hf (d := d_Row___getitem__) (F := F_Row___getitem__) rfl rfl rfl rfl fun _ _ _ _ _ _ us ws h1 h2 => match us, ws, h1, h2 with | [_, _], [], _, _ => rfl
theorem b4 {K : PySem.W.Frag} {fd : Nat → FuncData} (hf : FdOk T K fd) (hc : chk T K = true) : BindOk (T.pk K fd) K 12 2 [] [] := bind_plain hf (d := d_Row___sub__) (F := F_Row___sub__) rfl rfl rfl rfl fun _ _ _ _ _ _ us ws h1 h2 => match us, ws, h1, h2 with | [_, _], [], _, _ => rfl
theorem b5 {K : PySem.W.Frag} {fd : Nat → FuncData} (hf : FdOk T K fd) (hc : chk T K = true) : BindOk (T.pk K fd) K 13 2 [] [] := bind_plain hf (d := d_Row___rshift__) (F := F_Row___rshift__) rfl rfl rfl rfl fun _ _ _ _ _ _ us ws h1 h2 => match us, ws, h1, h2 with | [_, _], [], _, _ => rfl
theorem b6 {K : PySem.W.Frag} {fd : Nat → FuncData} (hf : FdOk T K fd) (hc : chk T K = true) : BindOk (T.pk K fd) K 14 2 [] [] := bind_plain hf (d := d_Row___eq__) (F := F_Row___eq__) rfl rfl rfl rfl fun _ _ _ _ _ _ us ws h1 h2 => match us, ws, h1, h2 with | [_, _], [], _, _ => rfl
theorem b7 {K : PySem.W.Frag} {fd : Nat → FuncData} (hf : FdOk T K fd) (hc : chk T K = true) : BindOk (T.pk K fd) K 20 1 [] [] := bind_plain hf (d := d_Step_kind) (F := F_Step_kind) rfl rfl rfl rfl fun _ _ _ _ _ _ us ws h1 h2 => match us, ws, h1, h2 with | [_], [], _, _ => rfl
theorem b8 {K : PySem.W.Frag} {fd : Nat → FuncData} (hf : FdOk T K fd) (hc : chk T K = true) : BindOk (T.pk K fd) K 21 1 [] [] := bind_plain hf (d := d_Step_amounts) (F := F_Step_amounts) rfl rfl rfl rfl fun _ _ _ _ _ _ us ws h1 h2 => match us, ws, h1, h2 with | [_], [], _, _ => rfl
theorem b9 {K : PySem.W.Frag} {fd : Nat → FuncData} (hf : FdOk T K fd) (hc : chk T K = true) : BindOk (T.pk K fd) K 22 1 [] [] := bind_plain hf (d := d_Step_text) (F := F_Step_text) rfl rfl rfl rfl fun _ _ _ _ _ _ us ws h1 h2 => match us, ws, h1, h2 with | [_], [], _, _ => rfl
theorem b10 {K : PySem.W.Frag} {fd : Nat → FuncData} (hf : FdOk T K fd) (hc : chk T K = true) : BindOk (T.pk K fd) K 24 2 [] [] := bind_plain hf (d := d_Step___eq__) (F := F_Step___eq__) rfl rfl rfl rfl fun _ _ _ _ _ _ us ws h1 h2 => match us, ws, h1, h2 with | [_, _], [], _, _ => rfl
theorem b11 {K : PySem.W.Frag} {fd : Nat → FuncData} (hf : FdOk T K fd) (hc : chk T K = true) : BindOk (T.pk K fd) K 2 1 [] [] := bind_plain hf (d := d_tupled) (F := F_tupled) rfl rfl rfl rfl fun _ _ _ _ _ _ us ws h1 h2 => match us, ws, h1, h2 with | [_], [], _, _ => rfl
theorem b12 {K : PySem.W.Frag} {fd : Nat → FuncData} (hf : FdOk T K fd) (hc : chk T K = true) : BindOk (T.pk K fd) K 5 2 [] [] := bind_plain hf (d := d_in_both) (F := F_in_both) rfl rfl rfl rfl fun _ _ _ _ _ _ us ws h1 h2 => match us, ws, h1, h2 with | [_, _], [], _, _ => rfl
theorem b13 {K : PySem.W.Frag} {fd : Nat → FuncData} (hf : FdOk T K fd) (hc : chk T K = true) : BindOk (T.pk K fd) K 1 1 [] [] := bind_plain hf (d := d_pair_of) (F := F_pair_of) rfl rfl rfl rfl fun _ _ _ _ _ _ us ws h1 h2 => match us, ws, h1, h2 with | [_], [], _, _ => rfl
theorem b14 {K : PySem.W.Frag} {fd : Nat → FuncData} (hf : FdOk T K fd) (hc : chk T K = true) : BindOk (T.pk K fd) K 4 1 [] [] := bind_plain hf (d := d_joined) (F := F_joined) rfl rfl rfl rfl fun _ _ _ _ _ _ us ws h1 h2 => match us, ws, h1, h2 with | [_], [], _, _ => rfl
theorem b15 {K : PySem.W.Frag} {fd : Nat → FuncData} (hf : FdOk T K fd) (hc : chk T K = true) : BindOk (T.pk K fd) K 7 2 [] [] := bind_dfl hf hc (d := d_Row___init__) (F := F_Row___init__) rfl rfl (by simp [d_Row___init__]) 1 rfl fun _ _ _ _ _ _ _ us ws its h1 h2 h3 => match us, ws, its, h1, h2, h3 with | [_, _], [], [_], _, _, _ => ⟨_, rfl, rfl⟩
theorem b16 {K : PySem.W.Frag} {fd : Nat → FuncData} (hf : FdOk T K fd) (hc : chk T K = true) : BindOk (T.pk K fd) K 6 2 [] [] := bind_plain hf (d := d_left_over) (F := F_left_over) rfl rfl rfl rfl fun _ _ _ _ _ _ us ws h1 h2 => match us, ws, h1, h2 with | [_, _], [], _, _ => rfl
theorem b17 {K : PySem.W.Frag} {fd : Nat → FuncData} (hf : FdOk T K fd) (hc : chk T K = true) : BindOk (T.pk K fd) K 0 1 [] [] := bind_plain hf (d := d_is_number) (F := F_is_number) rfl rfl rfl rfl fun _ _ _ _ _ _ us ws h1 h2 => match us, ws, h1, h2 with | [_], [], _, _ => rfl
theorem b18 {K : PySem.W.Frag} {fd : Nat → FuncData} (hf : FdOk T K fd) (hc : chk T K = true) : BindOk (T.pk K fd) K 15 2 [] [] := bind_plain hf (d := d_is_good) (F := F_is_good) rfl rfl rfl rfl fun _ _ _ _ _ _ us ws h1 h2 => match us, ws, h1, h2 with | [_, _], [], _, _ => rfl
theorem b19 {K : PySem.W.Frag} {fd : Nat → FuncData} (hf : FdOk T K fd) (hc : chk T K = true) : BindOk (T.pk K fd) K 3 1 [] [] := bind_plain hf (d := d_number_in) (F := F_number_in) rfl rfl rfl rfl fun _ _ _ _ _ _ us ws h1 h2 => match us, ws, h1, h2 with | [_], [], _, _ => rfl
theorem b20 {K : PySem.W.Frag} {fd : Nat → FuncData} (hf : FdOk T K fd) (hc : chk T K = true) : BindOk (T.pk K fd) K 18 3 [] [] := bind_plain hf (d := d_Step___init__) (F := F_Step___init__) rfl rfl rfl rfl fun _ _ _ _ _ _ us ws h1 h2 => match us, ws, h1, h2 with | [_, _, _], [], _, _ => rfl
theorem b21 {K : PySem.W.Frag} {fd : Nat → FuncData} (hf : FdOk T K fd) (hc : chk T K = true) : BindOk (T.pk K fd) K 16 2 [] [] := bind_plain hf (d := d_filled) (F := F_filled) rfl rfl rfl rfl fun _ _ _ _ _ _ us ws h1 h2 => match us, ws, h1, h2 with | [_, _], [], _, _ => rfl
theorem b22 {K : PySem.W.Frag} {fd : Nat → FuncData} (hf : FdOk T K fd) (hc : chk T K = true) : BindOk (T.pk K fd) K 25 1 [] [] := bind_plain hf (d := d_edges_of) (F := F_edges_of) rfl rfl rfl rfl fun _ _ _ _ _ _ us ws h1 h2 => match us, ws, h1, h2 with | [_], [], _, _ => rfl
theorem b23 {K : PySem.W.Frag} {fd : Nat → FuncData} (hf : FdOk T K fd) (hc : chk T K = true) : BindOk (T.pk K fd) K 17 3 [] [] := bind_plain hf (d := d_moved) (F := F_moved) rfl rfl rfl rfl fun _ _ _ _ _ _ us ws h1 h2 => match us, ws, h1, h2 with | [_, _, _], [], _, _ => rfl
theorem b24 {K : PySem.W.Frag} {fd : Nat → FuncData} (hf : FdOk T K fd) (hc : chk T K = true) : BindOk (T.pk K fd) K 27 2 [] [] := bind_plain hf (d := d__law_take) (F := F__law_take) rfl rfl rfl rfl fun _ _ _ _ _ _ us ws h1 h2 => match us, ws, h1, h2 with | [_, _], [], _, _ => rfl
theorem b25 {K : PySem.W.Frag} {fd : Nat → FuncData} (hf : FdOk T K fd) (hc : chk T K = true) : BindOk (T.pk K fd) K 30 2 [] [] := bind_plain hf (d := d__law_same) (F := F__law_same) rfl rfl rfl rfl fun _ _ _ _ _ _ us ws h1 h2 => match us, ws, h1, h2 with | [_, _], [], _, _ => rfl
theorem b26 {K : PySem.W.Frag} {fd : Nat → FuncData} (hf : FdOk T K fd) (hc : chk T K = true) : BindOk (T.pk K fd) K 29 2 [] [] := bind_plain hf (d := d__law_of) (F := F__law_of) rfl rfl rfl rfl fun _ _ _ _ _ _ us ws h1 h2 => match us, ws, h1, h2 with | [_, _], [], _, _ => rfl
theorem b27 {K : PySem.W.Frag} {fd : Nat → FuncData} (hf : FdOk T K fd) (hc : chk T K = true) : BindOk (T.pk K fd) K 31 2 [] [] := bind_plain hf (d := d__law_mixed) (F := F__law_mixed) rfl rfl rfl rfl fun _ _ _ _ _ _ us ws h1 h2 => match us, ws, h1, h2 with | [_, _], [], _, _ => rfl
theorem b28 {K : PySem.W.Frag} {fd : Nat → FuncData} (hf : FdOk T K fd) (hc : chk T K = true) : BindOk (T.pk K fd) K 23 2 [] [] := bind_plain hf (d := d_Step___call__) (F := F_Step___call__) rfl rfl rfl rfl fun _ _ _ _ _ _ us ws h1 h2 => match us, ws, h1, h2 with | [_, _], [], _, _ => rfl
theorem b29 {K : PySem.W.Frag} {fd : Nat → FuncData} (hf : FdOk T K fd) (hc : chk T K = true) : BindOk (T.pk K fd) K 7 1 [] [] := bind_dfl hf hc (d := d_Row___init__) (F := F_Row___init__) rfl rfl (by simp [d_Row___init__]) 0 rfl fun _ _ _ _ _ _ _ us ws its h1 h2 h3 => match us, ws, its, h1, h2, h3 with | [_], [], [_], _, _, _ => ⟨_, rfl, rfl⟩
theorem b30 {K : PySem.W.Frag} {fd : Nat → FuncData} (hf : FdOk T K fd) (hc : chk T K = true) : BindOk (T.pk K fd) K 19 1 [] [] := bind_plain hf (d := d_Step_of) (F := F_Step_of) rfl rfl rfl rfl fun _ _ _ _ _ _ us ws h1 h2 => match us, ws, h1, h2 with | [_], [], _, _ => rfl
theorem b31 {K : PySem.W.Frag} {fd : Nat → FuncData} (hf : FdOk T K fd) (hc : chk T K = true) : BindOk (T.pk K fd) K 37 0 [] [] := bind_plain hf (d := d__law_by_hand_right) (F := F__law_by_hand_right) rfl rfl rfl rfl fun _ _ _ _ _ _ us ws h1 h2 => match us, ws, h1, h2 with | [], [], _, _ => rfl
theorem b32 {K : PySem.W.Frag} {fd : Nat → FuncData} (hf : FdOk T K fd) (hc : chk T K = true) : BindOk (T.pk K fd) K 34 1 [] [] := bind_plain hf (d := d__law_met) (F := F__law_met) rfl rfl rfl rfl fun _ _ _ _ _ _ us ws h1 h2 => match us, ws, h1, h2 with | [_], [], _, _ => rfl
theorem b33 {K : PySem.W.Frag} {fd : Nat → FuncData} (hf : FdOk T K fd) (hc : chk T K = true) : BindOk (T.pk K fd) K 32 3 [] [] := bind_plain hf (d := d__law_pairs) (F := F__law_pairs) rfl rfl rfl rfl fun _ _ _ _ _ _ us ws h1 h2 => match us, ws, h1, h2 with | [_, _, _], [], _, _ => rfl
theorem b34 {K : PySem.W.Frag} {fd : Nat → FuncData} (hf : FdOk T K fd) (hc : chk T K = true) : BindOk (T.pk K fd) K 35 2 [] [] := bind_plain hf (d := d__law_stage) (F := F__law_stage) rfl rfl rfl rfl fun _ _ _ _ _ _ us ws h1 h2 => match us, ws, h1, h2 with | [_, _], [], _, _ => rfl
theorem b35 {K : PySem.W.Frag} {fd : Nat → FuncData} (hf : FdOk T K fd) (hc : chk T K = true) : BindOk (T.pk K fd) K 23 1 ["row"] [0, 1] := bind_plain hf (d := d_Step___call__) (F := F_Step___call__) rfl rfl rfl rfl fun _ _ _ _ _ _ us ws h1 h2 => match us, ws, h1, h2 with | [_], [_], _, _ => rfl
theorem b36 {K : PySem.W.Frag} {fd : Nat → FuncData} (hf : FdOk T K fd) (hc : chk T K = true) : BindOk (T.pk K fd) K 36 4 [] [] := bind_plain hf (d := d__law_is_in) (F := F__law_is_in) rfl rfl rfl rfl fun _ _ _ _ _ _ us ws h1 h2 => match us, ws, h1, h2 with | [_, _, _, _], [], _, _ => rfl
theorem b37 {K : PySem.W.Frag} {fd : Nat → FuncData} (hf : FdOk T K fd) (hc : chk T K = true) : BindOk (T.pk K fd) K 33 1 [] [] := bind_plain hf (d := d__law_gathered) (F := F__law_gathered) rfl rfl rfl rfl fun _ _ _ _ _ _ us ws h1 h2 => match us, ws, h1, h2 with | [_], [], _, _ => rfl
theorem b38 {K : PySem.W.Frag} {fd : Nat → FuncData} (hf : FdOk T K fd) (hc : chk T K = true) : BindOk (T.pk K fd) K 28 2 [] [] := bind_plain hf (d := d__law_cells) (F := F__law_cells) rfl rfl rfl rfl fun _ _ _ _ _ _ us ws h1 h2 => match us, ws, h1, h2 with | [_, _], [], _, _ => rfl
theorem b39 {K : PySem.W.Frag} {fd : Nat → FuncData} (hf : FdOk T K fd) (hc : chk T K = true) : BindOk (T.pk K fd) K 38 1 [] [] := bind_plain hf (d := d__law_right) (F := F__law_right) rfl rfl rfl rfl fun _ _ _ _ _ _ us ws h1 h2 => match us, ws, h1, h2 with | [_], [], _, _ => rfl
theorem b40 {K : PySem.W.Frag} {fd : Nat → FuncData} (hf : FdOk T K fd) (hc : chk T K = true) : BindOk (T.pk K fd) K 26 2 [] [] := bind_plain hf (d := d__law_box) (F := F__law_box) rfl rfl rfl rfl fun _ _ _ _ _ _ us ws h1 h2 => match us, ws, h1, h2 with | [_, _], [], _, _ => rfl
theorem bnd : ∀ K fd, FdOk T K fd → chk T K = true → ∀ f n ks perm, (f, n, ks, perm) ∈ T.C.bs → BindOk (T.pk K fd) K f n ks perm := by
  intro K fd hf hc f n ks perm h
  rcases List.mem_cons.mp h with h | h
  · cases h; exact b0 hf hc
  rcases List.mem_cons.mp h with h | h
  · cases h; exact b1 hf hc
  rcases List.mem_cons.mp h with h | h
  · cases h; exact b2 hf hc
  rcases List.mem_cons.mp h with h | h
  · cases h; exact b3 hf hc
  rcases List.mem_cons.mp h with h | h
  · cases h; exact b4 hf hc
  rcases List.mem_cons.mp h with h | h
  · cases h; exact b5 hf hc
  rcases List.mem_cons.mp h with h | h
  · cases h; exact b6 hf hc
  rcases List.mem_cons.mp h with h | h
  · cases h; exact b7 hf hc
  rcases List.mem_cons.mp h with h | h
  · cases h; exact b8 hf hc
  rcases List.mem_cons.mp h with h | h
  · cases h; exact b9 hf hc
  rcases List.mem_cons.mp h with h | h
  · cases h; exact b10 hf hc
  rcases List.mem_cons.mp h with h | h
  · cases h; exact b11 hf hc
  rcases List.mem_cons.mp h with h | h
  · cases h; exact b12 hf hc
  rcases List.mem_cons.mp h with h | h
  · cases h; exact b13 hf hc
  rcases List.mem_cons.mp h with h | h
  · cases h; exact b14 hf hc
  rcases List.mem_cons.mp h with h | h
  · cases h; exact b15 hf hc
  rcases List.mem_cons.mp h with h | h
  · cases h; exact b16 hf hc
  rcases List.mem_cons.mp h with h | h
  · cases h; exact b17 hf hc
  rcases List.mem_cons.mp h with h | h
  · cases h; exact b18 hf hc
  rcases List.mem_cons.mp h with h | h
  · cases h; exact b19 hf hc
  rcases List.mem_cons.mp h with h | h
  · cases h; exact b20 hf hc
  rcases List.mem_cons.mp h with h | h
  · cases h; exact b21 hf hc
  rcases List.mem_cons.mp h with h | h
  · cases h; exact b22 hf hc
  rcases List.mem_cons.mp h with h | h
  · cases h; exact b23 hf hc
  rcases List.mem_cons.mp h with h | h
  · cases h; exact b24 hf hc
  rcases List.mem_cons.mp h with h | h
  · cases h; exact b25 hf hc
  rcases List.mem_cons.mp h with h | h
  · cases h; exact b26 hf hc
  rcases List.mem_cons.mp h with h | h
  · cases h; exact b27 hf hc
  rcases List.mem_cons.mp h with h | h
  · cases h; exact b28 hf hc
  rcases List.mem_cons.mp h with h | h
  · cases h; exact b29 hf hc
  rcases List.mem_cons.mp h with h | h
  · cases h; exact b30 hf hc
  rcases List.mem_cons.mp h with h | h
  · cases h; exact b31 hf hc
  rcases List.mem_cons.mp h with h | h
  · cases h; exact b32 hf hc
  rcases List.mem_cons.mp h with h | h
  · cases h; exact b33 hf hc
  rcases List.mem_cons.mp h with h | h
  · cases h; exact b34 hf hc
  rcases List.mem_cons.mp h with h | h
  · cases h; exact b35 hf hc
  rcases List.mem_cons.mp h with h | h
  · cases h; exact b36 hf hc
  rcases List.mem_cons.mp h with h | h
  · cases h; exact b37 hf hc
  rcases List.mem_cons.mp h with h | h
  · cases h; exact b38 hf hc
  rcases List.mem_cons.mp h with h | h
  · cases h; exact b39 hf hc
  rcases List.mem_cons.mp h with h | h
  · cases h; exact b40 hf hc
  cases h
theorem sc_is_number : FnScope [("thing" : PySem.Str)] [("thing" : PySem.Str)] d_is_number.scope := ⟨rfl, rfl, rfl, by decide +kernel, rfl, by decide +kernel, by decide +kernel⟩
theorem cb_is_number : cSs C [("thing" : PySem.Str)] 200 ⟨d_is_number.scope, fun _ => true, F_is_number.fr, F_is_number.ml⟩ d_is_number.body = some B_is_number := by kernel_rfl
theorem sc_pair_of : FnScope [("pair" : PySem.Str)] [("pair" : PySem.Str)] d_pair_of.scope := ⟨rfl, rfl, rfl, by decide +kernel, rfl, by decide +kernel, by decide +kernel⟩
theorem cb_pair_of : cSs C [("pair" : PySem.Str)] 200 ⟨d_pair_of.scope, fun _ => true, F_pair_of.fr, F_pair_of.ml⟩ d_pair_of.body = some B_pair_of := by kernel_rfl
theorem sc_tupled : FnScope [("thing" : PySem.Str), (".0" : PySem.Str), ("part" : PySem.Str)] [("thing" : PySem.Str)] d_tupled.scope := ⟨rfl, rfl, rfl, by decide +kernel, rfl, by decide +kernel, by decide +kernel⟩
theorem cb_tupled : cSs C [("thing" : PySem.Str), (".0" : PySem.Str), ("part" : PySem.Str)] 200 ⟨d_tupled.scope, fun _ => true, F_tupled.fr, F_tupled.ml⟩ d_tupled.body = some B_tupled := by kernel_rfl
theorem sc_number_in : FnScope [("text" : PySem.Str), ("digits" : PySem.Str), ("found" : PySem.Str), (".0" : PySem.Str), ("sign" : PySem.Str)] [("text" : PySem.Str)] d_number_in.scope := ⟨rfl, rfl, rfl, by decide +kernel, rfl, by decide +kernel, by decide +kernel⟩
theorem cb_number_in : cSs C [("text" : PySem.Str), ("digits" : PySem.Str), ("found" : PySem.Str), (".0" : PySem.Str), ("sign" : PySem.Str)] 200 ⟨d_number_in.scope, fun _ => true, F_number_in.fr, F_number_in.ml⟩ d_number_in.body = some B_number_in := by kernel_rfl
theorem sc_joined : FnScope [("pairs" : PySem.Str), ("found" : PySem.Str), ("first" : PySem.Str), ("behind" : PySem.Str)] [("pairs" : PySem.Str)] d_joined.scope := ⟨rfl, rfl, rfl, by decide +kernel, rfl, by decide +kernel, by decide +kernel⟩
theorem cb_joined : cSs C [("pairs" : PySem.Str), ("found" : PySem.Str), ("first" : PySem.Str), ("behind" : PySem.Str)] 200 ⟨d_joined.scope, fun _ => true, F_joined.fr, F_joined.ml⟩ d_joined.body = some B_joined := by kernel_rfl
theorem sc_in_both : FnScope [("mine" : PySem.Str), ("its" : PySem.Str), ("found" : PySem.Str), ("one" : PySem.Str), ("other" : PySem.Str), ("first" : PySem.Str), ("behind" : PySem.Str)] [("mine" : PySem.Str), ("its" : PySem.Str)] d_in_both.scope := ⟨rfl, rfl, rfl, by decide +kernel, rfl, by decide +kernel, by decide +kernel⟩
theorem cb_in_both : cSs C [("mine" : PySem.Str), ("its" : PySem.Str), ("found" : PySem.Str), ("one" : PySem.Str), ("other" : PySem.Str), ("first" : PySem.Str), ("behind" : PySem.Str)] 200 ⟨d_in_both.scope, fun _ => true, F_in_both.fr, F_in_both.ml⟩ d_in_both.body = some B_in_both := by kernel_rfl
theorem sc_left_over : FnScope [("mine" : PySem.Str), ("its" : PySem.Str), ("edges" : PySem.Str), ("free" : PySem.Str), (".0" : PySem.Str), ("pair" : PySem.Str), ("edge" : PySem.Str), ("at" : PySem.Str)] [("mine" : PySem.Str), ("its" : PySem.Str)] d_left_over.scope := ⟨rfl, rfl, rfl, by decide +kernel, rfl, by decide +kernel, by decide +kernel⟩
theorem cb_left_over : cSs C [("mine" : PySem.Str), ("its" : PySem.Str), ("edges" : PySem.Str), ("free" : PySem.Str), (".0" : PySem.Str), ("pair" : PySem.Str), ("edge" : PySem.Str), ("at" : PySem.Str)] 200 ⟨d_left_over.scope, fun _ => true, F_left_over.fr, F_left_over.ml⟩ d_left_over.body = some B_left_over := by kernel_rfl
theorem sc_Row___init__ : FnScope [("self" : PySem.Str), ("pairs" : PySem.Str), ("pair" : PySem.Str), ("own" : PySem.Str), (".0" : PySem.Str)] [("self" : PySem.Str), ("pairs" : PySem.Str)] d_Row___init__.scope := ⟨rfl, rfl, rfl, by decide +kernel, rfl, by decide +kernel, by decide +kernel⟩
theorem cb_Row___init__ : cSs C [("self" : PySem.Str), ("pairs" : PySem.Str), ("pair" : PySem.Str), ("own" : PySem.Str), (".0" : PySem.Str)] 200 ⟨d_Row___init__.scope, fun _ => true, F_Row___init__.fr, F_Row___init__.ml⟩ d_Row___init__.body = some B_Row___init__ := by kernel_rfl
theorem sc_Row_spans : FnScope [("self" : PySem.Str)] [("self" : PySem.Str)] d_Row_spans.scope := ⟨rfl, rfl, rfl, by decide +kernel, rfl, by decide +kernel, by decide +kernel⟩
theorem cb_Row_spans : cSs C [("self" : PySem.Str)] 200 ⟨d_Row_spans.scope, fun _ => true, F_Row_spans.fr, F_Row_spans.ml⟩ d_Row_spans.body = some B_Row_spans := by kernel_rfl
theorem sc_Row_text : FnScope [("self" : PySem.Str), (".0" : PySem.Str), ("first" : PySem.Str), ("behind" : PySem.Str)] [("self" : PySem.Str)] d_Row_text.scope := ⟨rfl, rfl, rfl, by decide +kernel, rfl, by decide +kernel, by decide +kernel⟩
theorem cb_Row_text : cSs C [("self" : PySem.Str), (".0" : PySem.Str), ("first" : PySem.Str), ("behind" : PySem.Str)] 200 ⟨d_Row_text.scope, fun _ => true, F_Row_text.fr, F_Row_text.ml⟩ d_Row_text.body = some B_Row_text := by kernel_rfl
theorem sc_Row___len__ : FnScope [("self" : PySem.Str)] [("self" : PySem.Str)] d_Row___len__.scope := ⟨rfl, rfl, rfl, by decide +kernel, rfl, by decide +kernel, by decide +kernel⟩
theorem cb_Row___len__ : cSs C [("self" : PySem.Str)] 200 ⟨d_Row___len__.scope, fun _ => true, F_Row___len__.fr, F_Row___len__.ml⟩ d_Row___len__.body = some B_Row___len__ := by kernel_rfl
theorem sc_Row___getitem__ : FnScope [("self" : PySem.Str), ("place" : PySem.Str)] [("self" : PySem.Str), ("place" : PySem.Str)] d_Row___getitem__.scope := ⟨rfl, rfl, rfl, by decide +kernel, rfl, by decide +kernel, by decide +kernel⟩
theorem cb_Row___getitem__ : cSs C [("self" : PySem.Str), ("place" : PySem.Str)] 200 ⟨d_Row___getitem__.scope, fun _ => true, F_Row___getitem__.fr, F_Row___getitem__.ml⟩ d_Row___getitem__.body = some B_Row___getitem__ := by kernel_rfl
theorem sc_Row___sub__ : FnScope [("self" : PySem.Str), ("other" : PySem.Str)] [("self" : PySem.Str), ("other" : PySem.Str)] d_Row___sub__.scope := ⟨rfl, rfl, rfl, by decide +kernel, rfl, by decide +kernel, by decide +kernel⟩
theorem cb_Row___sub__ : cSs C [("self" : PySem.Str), ("other" : PySem.Str)] 200 ⟨d_Row___sub__.scope, fun _ => true, F_Row___sub__.fr, F_Row___sub__.ml⟩ d_Row___sub__.body = some B_Row___sub__ := by kernel_rfl
theorem sc_Row___rshift__ : FnScope [("self" : PySem.Str), ("many" : PySem.Str), (".0" : PySem.Str), ("first" : PySem.Str), ("behind" : PySem.Str)] [("self" : PySem.Str), ("many" : PySem.Str)] d_Row___rshift__.scope := ⟨rfl, rfl, rfl, by decide +kernel, rfl, by decide +kernel, by decide +kernel⟩
theorem cb_Row___rshift__ : cSs C [("self" : PySem.Str), ("many" : PySem.Str), (".0" : PySem.Str), ("first" : PySem.Str), ("behind" : PySem.Str)] 200 ⟨d_Row___rshift__.scope, fun _ => true, F_Row___rshift__.fr, F_Row___rshift__.ml⟩ d_Row___rshift__.body = some B_Row___rshift__ := by kernel_rfl
theorem sc_Row___eq__ : FnScope [("self" : PySem.Str), ("other" : PySem.Str)] [("self" : PySem.Str), ("other" : PySem.Str)] d_Row___eq__.scope := ⟨rfl, rfl, rfl, by decide +kernel, rfl, by decide +kernel, by decide +kernel⟩
theorem cb_Row___eq__ : cSs C [("self" : PySem.Str), ("other" : PySem.Str)] 200 ⟨d_Row___eq__.scope, fun _ => true, F_Row___eq__.fr, F_Row___eq__.ml⟩ d_Row___eq__.body = some B_Row___eq__ := by kernel_rfl
theorem sc_is_good : FnScope [("kind" : PySem.Str), ("amounts" : PySem.Str), (".0" : PySem.Str), ("one" : PySem.Str)] [("kind" : PySem.Str), ("amounts" : PySem.Str)] d_is_good.scope := ⟨rfl, rfl, rfl, by decide +kernel, rfl, by decide +kernel, by decide +kernel⟩
theorem cb_is_good : cSs C [("kind" : PySem.Str), ("amounts" : PySem.Str), (".0" : PySem.Str), ("one" : PySem.Str)] 200 ⟨d_is_good.scope, fun _ => true, F_is_good.fr, F_is_good.ml⟩ d_is_good.body = some B_is_good := by kernel_rfl
theorem sc_filled : FnScope [("spans" : PySem.Str), ("gap" : PySem.Str), ("found" : PySem.Str), ("first" : PySem.Str), ("behind" : PySem.Str)] [("spans" : PySem.Str), ("gap" : PySem.Str)] d_filled.scope := ⟨rfl, rfl, rfl, by decide +kernel, rfl, by decide +kernel, by decide +kernel⟩
theorem cb_filled : cSs C [("spans" : PySem.Str), ("gap" : PySem.Str), ("found" : PySem.Str), ("first" : PySem.Str), ("behind" : PySem.Str)] 200 ⟨d_filled.scope, fun _ => true, F_filled.fr, F_filled.ml⟩ d_filled.body = some B_filled := by kernel_rfl
theorem sc_moved : FnScope [("spans" : PySem.Str), ("ahead" : PySem.Str), ("after" : PySem.Str), (".0" : PySem.Str), ("first" : PySem.Str), ("behind" : PySem.Str)] [("spans" : PySem.Str), ("ahead" : PySem.Str), ("after" : PySem.Str)] d_moved.scope := ⟨rfl, rfl, rfl, by decide +kernel, rfl, by decide +kernel, by decide +kernel⟩
theorem cb_moved : cSs C [("spans" : PySem.Str), ("ahead" : PySem.Str), ("after" : PySem.Str), (".0" : PySem.Str), ("first" : PySem.Str), ("behind" : PySem.Str)] 200 ⟨d_moved.scope, fun _ => true, F_moved.fr, F_moved.ml⟩ d_moved.body = some B_moved := by kernel_rfl
theorem sc_Step___init__ : FnScope [("self" : PySem.Str), ("kind" : PySem.Str), ("amounts" : PySem.Str), ("own" : PySem.Str)] [("self" : PySem.Str), ("kind" : PySem.Str), ("amounts" : PySem.Str)] d_Step___init__.scope := ⟨rfl, rfl, rfl, by decide +kernel, rfl, by decide +kernel, by decide +kernel⟩
theorem cb_Step___init__ : cSs C [("self" : PySem.Str), ("kind" : PySem.Str), ("amounts" : PySem.Str), ("own" : PySem.Str)] 200 ⟨d_Step___init__.scope, fun _ => true, F_Step___init__.fr, F_Step___init__.ml⟩ d_Step___init__.body = some B_Step___init__ := by kernel_rfl
theorem sc_Step_of : FnScope [("text" : PySem.Str), ("pieces" : PySem.Str), ("amounts" : PySem.Str), (".0" : PySem.Str), ("piece" : PySem.Str)] [("text" : PySem.Str)] d_Step_of.scope := ⟨rfl, rfl, rfl, by decide +kernel, rfl, by decide +kernel, by decide +kernel⟩
theorem cb_Step_of : cSs C [("text" : PySem.Str), ("pieces" : PySem.Str), ("amounts" : PySem.Str), (".0" : PySem.Str), ("piece" : PySem.Str)] 200 ⟨d_Step_of.scope, fun _ => true, F_Step_of.fr, F_Step_of.ml⟩ d_Step_of.body = some B_Step_of := by kernel_rfl
theorem sc_Step_kind : FnScope [("self" : PySem.Str)] [("self" : PySem.Str)] d_Step_kind.scope := ⟨rfl, rfl, rfl, by decide +kernel, rfl, by decide +kernel, by decide +kernel⟩
theorem cb_Step_kind : cSs C [("self" : PySem.Str)] 200 ⟨d_Step_kind.scope, fun _ => true, F_Step_kind.fr, F_Step_kind.ml⟩ d_Step_kind.body = some B_Step_kind := by kernel_rfl
theorem sc_Step_amounts : FnScope [("self" : PySem.Str)] [("self" : PySem.Str)] d_Step_amounts.scope := ⟨rfl, rfl, rfl, by decide +kernel, rfl, by decide +kernel, by decide +kernel⟩
theorem cb_Step_amounts : cSs C [("self" : PySem.Str)] 200 ⟨d_Step_amounts.scope, fun _ => true, F_Step_amounts.fr, F_Step_amounts.ml⟩ d_Step_amounts.body = some B_Step_amounts := by kernel_rfl
theorem sc_Step_text : FnScope [("self" : PySem.Str), (".0" : PySem.Str), ("one" : PySem.Str)] [("self" : PySem.Str)] d_Step_text.scope := ⟨rfl, rfl, rfl, by decide +kernel, rfl, by decide +kernel, by decide +kernel⟩
theorem cb_Step_text : cSs C [("self" : PySem.Str), (".0" : PySem.Str), ("one" : PySem.Str)] 200 ⟨d_Step_text.scope, fun _ => true, F_Step_text.fr, F_Step_text.ml⟩ d_Step_text.body = some B_Step_text := by kernel_rfl
theorem sc_Step___call__ : FnScope [("self" : PySem.Str), ("row" : PySem.Str), ("ahead" : PySem.Str), ("after" : PySem.Str), (".0" : PySem.Str), ("pair" : PySem.Str)] [("self" : PySem.Str), ("row" : PySem.Str)] d_Step___call__.scope := ⟨rfl, rfl, rfl, by decide +kernel, rfl, by decide +kernel, by decide +kernel⟩
theorem cb_Step___call__ : cSs C [("self" : PySem.Str), ("row" : PySem.Str), ("ahead" : PySem.Str), ("after" : PySem.Str), (".0" : PySem.Str), ("pair" : PySem.Str)] 200 ⟨d_Step___call__.scope, fun _ => true, F_Step___call__.fr, F_Step___call__.ml⟩ d_Step___call__.body = some B_Step___call__ := by kernel_rfl
theorem sc_Step___eq__ : FnScope [("self" : PySem.Str), ("other" : PySem.Str)] [("self" : PySem.Str), ("other" : PySem.Str)] d_Step___eq__.scope := ⟨rfl, rfl, rfl, by decide +kernel, rfl, by decide +kernel, by decide +kernel⟩
theorem cb_Step___eq__ : cSs C [("self" : PySem.Str), ("other" : PySem.Str)] 200 ⟨d_Step___eq__.scope, fun _ => true, F_Step___eq__.fr, F_Step___eq__.ml⟩ d_Step___eq__.body = some B_Step___eq__ := by kernel_rfl
theorem sc_edges_of : FnScope [("step" : PySem.Str)] [("step" : PySem.Str)] d_edges_of.scope := ⟨rfl, rfl, rfl, by decide +kernel, rfl, by decide +kernel, by decide +kernel⟩
theorem cb_edges_of : cSs C [("step" : PySem.Str)] 200 ⟨d_edges_of.scope, fun _ => true, F_edges_of.fr, F_edges_of.ml⟩ d_edges_of.body = some B_edges_of := by kernel_rfl
theorem sc__law_box : FnScope [("_law_script" : PySem.Str), ("_law_k" : PySem.Str), ("_law_cell" : PySem.Str)] [("_law_script" : PySem.Str), ("_law_k" : PySem.Str)] d__law_box.scope := ⟨rfl, rfl, rfl, by decide +kernel, rfl, by decide +kernel, by decide +kernel⟩
theorem cb__law_box : cSs C [("_law_script" : PySem.Str), ("_law_k" : PySem.Str), ("_law_cell" : PySem.Str)] 200 ⟨d__law_box.scope, fun _ => true, F__law_box.fr, F__law_box.ml⟩ d__law_box.body = some B__law_box := by kernel_rfl
theorem sc__law_take : FnScope [("_law_urn" : PySem.Str), ("_law_low_so" : PySem.Str), ("_law_drawn" : PySem.Str), ("_law_once" : PySem.Str), ("_law_far" : PySem.Str), ("_law_twice" : PySem.Str)] [("_law_urn" : PySem.Str), ("_law_low_so" : PySem.Str)] d__law_take.scope := ⟨rfl, rfl, rfl, by decide +kernel, rfl, by decide +kernel, by decide +kernel⟩
theorem cb__law_take : cSs C [("_law_urn" : PySem.Str), ("_law_low_so" : PySem.Str), ("_law_drawn" : PySem.Str), ("_law_once" : PySem.Str), ("_law_far" : PySem.Str), ("_law_twice" : PySem.Str)] 200 ⟨d__law_take.scope, fun _ => true, F__law_take.fr, F__law_take.ml⟩ d__law_take.body = some B__law_take := by kernel_rfl
theorem sc__law_cells : FnScope [("_law_script" : PySem.Str), ("_law_top" : PySem.Str), ("_law_cells_here" : PySem.Str), ("_law_k" : PySem.Str), ("_law_cell" : PySem.Str), ("_law_at_so" : PySem.Str)] [("_law_script" : PySem.Str), ("_law_top" : PySem.Str)] d__law_cells.scope := ⟨rfl, rfl, rfl, by decide +kernel, rfl, by decide +kernel, by decide +kernel⟩
theorem cb__law_cells : cSs C [("_law_script" : PySem.Str), ("_law_top" : PySem.Str), ("_law_cells_here" : PySem.Str), ("_law_k" : PySem.Str), ("_law_cell" : PySem.Str), ("_law_at_so" : PySem.Str)] 200 ⟨d__law_cells.scope, fun _ => true, F__law_cells.fr, F__law_cells.ml⟩ d__law_cells.body = some B__law_cells := by kernel_rfl
theorem sc__law_of : FnScope [("_law_urn" : PySem.Str), ("_law_some_so" : PySem.Str)] [("_law_urn" : PySem.Str), ("_law_some_so" : PySem.Str)] d__law_of.scope := ⟨rfl, rfl, rfl, by decide +kernel, rfl, by decide +kernel, by decide +kernel⟩
theorem cb__law_of : cSs C [("_law_urn" : PySem.Str), ("_law_some_so" : PySem.Str)] 200 ⟨d__law_of.scope, fun _ => true, F__law_of.fr, F__law_of.ml⟩ d__law_of.body = some B__law_of := by kernel_rfl
theorem sc__law_same : FnScope [("_law_got" : PySem.Str), ("_law_goal" : PySem.Str), (".0" : PySem.Str), ("_law_mine_so" : PySem.Str), ("_law_own" : PySem.Str)] [("_law_got" : PySem.Str), ("_law_goal" : PySem.Str)] d__law_same.scope := ⟨rfl, rfl, rfl, by decide +kernel, rfl, by decide +kernel, by decide +kernel⟩
theorem cb__law_same : cSs C [("_law_got" : PySem.Str), ("_law_goal" : PySem.Str), (".0" : PySem.Str), ("_law_mine_so" : PySem.Str), ("_law_own" : PySem.Str)] 200 ⟨d__law_same.scope, fun _ => true, F__law_same.fr, F__law_same.ml⟩ d__law_same.body = some B__law_same := by kernel_rfl
theorem sc__law_mixed : FnScope [("_law_urn" : PySem.Str), ("_law_pool" : PySem.Str), ("_law_left" : PySem.Str), ("_law_found" : PySem.Str), ("_law_turn" : PySem.Str)] [("_law_urn" : PySem.Str), ("_law_pool" : PySem.Str)] d__law_mixed.scope := ⟨rfl, rfl, rfl, by decide +kernel, rfl, by decide +kernel, by decide +kernel⟩
theorem cb__law_mixed : cSs C [("_law_urn" : PySem.Str), ("_law_pool" : PySem.Str), ("_law_left" : PySem.Str), ("_law_found" : PySem.Str), ("_law_turn" : PySem.Str)] 200 ⟨d__law_mixed.scope, fun _ => true, F__law_mixed.fr, F__law_mixed.ml⟩ d__law_mixed.body = some B__law_mixed := by kernel_rfl
theorem sc__law_pairs : FnScope [("_law_urn" : PySem.Str), ("_law_most_so" : PySem.Str), ("_law_wide_so" : PySem.Str), ("_law_found" : PySem.Str), ("_law_here" : PySem.Str), ("_law_turn" : PySem.Str), ("_law_far" : PySem.Str)] [("_law_urn" : PySem.Str), ("_law_most_so" : PySem.Str), ("_law_wide_so" : PySem.Str)] d__law_pairs.scope := ⟨rfl, rfl, rfl, by decide +kernel, rfl, by decide +kernel, by decide +kernel⟩
theorem cb__law_pairs : cSs C [("_law_urn" : PySem.Str), ("_law_most_so" : PySem.Str), ("_law_wide_so" : PySem.Str), ("_law_found" : PySem.Str), ("_law_here" : PySem.Str), ("_law_turn" : PySem.Str), ("_law_far" : PySem.Str)] 200 ⟨d__law_pairs.scope, fun _ => true, F__law_pairs.fr, F__law_pairs.ml⟩ d__law_pairs.body = some B__law_pairs := by kernel_rfl
theorem sc__law_gathered : FnScope [("_law_times_so" : PySem.Str), ("_law_found" : PySem.Str), ("_law_beat" : PySem.Str)] [("_law_times_so" : PySem.Str)] d__law_gathered.scope := ⟨rfl, rfl, rfl, by decide +kernel, rfl, by decide +kernel, by decide +kernel⟩
theorem cb__law_gathered : cSs C [("_law_times_so" : PySem.Str), ("_law_found" : PySem.Str), ("_law_beat" : PySem.Str)] 200 ⟨d__law_gathered.scope, fun _ => true, F__law_gathered.fr, F__law_gathered.ml⟩ d__law_gathered.body = some B__law_gathered := by kernel_rfl
theorem sc__law_met : FnScope [("_law_pairs_so" : PySem.Str), ("_law_found" : PySem.Str), ("_law_low" : PySem.Str), ("_law_high" : PySem.Str)] [("_law_pairs_so" : PySem.Str)] d__law_met.scope := ⟨rfl, rfl, rfl, by decide +kernel, rfl, by decide +kernel, by decide +kernel⟩
theorem cb__law_met : cSs C [("_law_pairs_so" : PySem.Str), ("_law_found" : PySem.Str), ("_law_low" : PySem.Str), ("_law_high" : PySem.Str)] 200 ⟨d__law_met.scope, fun _ => true, F__law_met.fr, F__law_met.ml⟩ d__law_met.body = some B__law_met := by kernel_rfl
theorem sc__law_stage : FnScope [("_law_urn" : PySem.Str), ("_law_most_so" : PySem.Str), ("_law_kind_so" : PySem.Str)] [("_law_urn" : PySem.Str), ("_law_most_so" : PySem.Str)] d__law_stage.scope := ⟨rfl, rfl, rfl, by decide +kernel, rfl, by decide +kernel, by decide +kernel⟩
theorem cb__law_stage : cSs C [("_law_urn" : PySem.Str), ("_law_most_so" : PySem.Str), ("_law_kind_so" : PySem.Str)] 200 ⟨d__law_stage.scope, fun _ => true, F__law_stage.fr, F__law_stage.ml⟩ d__law_stage.body = some B__law_stage := by kernel_rfl
theorem sc__law_is_in : FnScope [("_law_pairs_so" : PySem.Str), ("_law_kind_so" : PySem.Str), ("_law_much" : PySem.Str), ("_law_beat" : PySem.Str), ("_law_low" : PySem.Str), ("_law_high" : PySem.Str), ("_law_ahead_so" : PySem.Str), ("_law_after_so" : PySem.Str), (".0" : PySem.Str)] [("_law_pairs_so" : PySem.Str), ("_law_kind_so" : PySem.Str), ("_law_much" : PySem.Str), ("_law_beat" : PySem.Str)] d__law_is_in.scope := ⟨rfl, rfl, rfl, by decide +kernel, rfl, by decide +kernel, by decide +kernel⟩
theorem cb__law_is_in : cSs C [("_law_pairs_so" : PySem.Str), ("_law_kind_so" : PySem.Str), ("_law_much" : PySem.Str), ("_law_beat" : PySem.Str), ("_law_low" : PySem.Str), ("_law_high" : PySem.Str), ("_law_ahead_so" : PySem.Str), ("_law_after_so" : PySem.Str), (".0" : PySem.Str)] 200 ⟨d__law_is_in.scope, fun _ => true, F__law_is_in.fr, F__law_is_in.ml⟩ d__law_is_in.body = some B__law_is_in := by kernel_rfl
theorem sc__law_by_hand_right : FnScope [("_law_host" : PySem.Str), ("_law_got" : PySem.Str), ("_law_goal" : PySem.Str), ("_law_bare" : PySem.Str), ("_law_flats" : PySem.Str), ("_law_far" : PySem.Str), ("_law_wide_so" : PySem.Str), (".0" : PySem.Str), ("_law_flat" : PySem.Str), ("_law_k" : PySem.Str)] [] d__law_by_hand_right.scope := ⟨rfl, rfl, rfl, by decide +kernel, rfl, by decide +kernel, by decide +kernel⟩
theorem cb__law_by_hand_right : cSs C [("_law_host" : PySem.Str), ("_law_got" : PySem.Str), ("_law_goal" : PySem.Str), ("_law_bare" : PySem.Str), ("_law_flats" : PySem.Str), ("_law_far" : PySem.Str), ("_law_wide_so" : PySem.Str), (".0" : PySem.Str), ("_law_flat" : PySem.Str), ("_law_k" : PySem.Str)] 200 ⟨d__law_by_hand_right.scope, fun _ => true, F__law_by_hand_right.fr, F__law_by_hand_right.ml⟩ d__law_by_hand_right.body = some B__law_by_hand_right := by kernel_rfl
theorem sc__law_right : FnScope [("_law_urn" : PySem.Str), ("_law_turn" : PySem.Str), ("_law_pairs_so" : PySem.Str), ("_law_kind_so" : PySem.Str), ("_law_much" : PySem.Str), ("_law_host" : PySem.Str), ("_law_made" : PySem.Str), ("_law_beats" : PySem.Str), (".0" : PySem.Str), ("_law_beat" : PySem.Str)] [("_law_urn" : PySem.Str)] d__law_right.scope := ⟨rfl, rfl, rfl, by decide +kernel, rfl, by decide +kernel, by decide +kernel⟩
theorem cb__law_right : cSs C [("_law_urn" : PySem.Str), ("_law_turn" : PySem.Str), ("_law_pairs_so" : PySem.Str), ("_law_kind_so" : PySem.Str), ("_law_much" : PySem.Str), ("_law_host" : PySem.Str), ("_law_made" : PySem.Str), ("_law_beats" : PySem.Str), (".0" : PySem.Str), ("_law_beat" : PySem.Str)] 200 ⟨d__law_right.scope, fun _ => true, F__law_right.fr, F__law_right.ml⟩ d__law_right.body = some B__law_right := by kernel_rfl
theorem sc_law : FnScope [("_law_script" : PySem.Str), ("_law_cells_here" : PySem.Str), (".0" : PySem.Str), ("_law_k" : PySem.Str)] [("_law_script" : PySem.Str)] d_law.scope := ⟨rfl, rfl, rfl, by decide +kernel, rfl, by decide +kernel, by decide +kernel⟩
theorem cb_law : cSs C [("_law_script" : PySem.Str), ("_law_cells_here" : PySem.Str), (".0" : PySem.Str), ("_law_k" : PySem.Str)] 200 ⟨d_law.scope, fun _ => true, F_law.fr, F_law.ml⟩ d_law.body = some B_law := by kernel_rfl
theorem lt_of {α : Type} {l : List α} {i : Nat} {a : α} (h : l[i]? = some a) : i < l.length := (List.getElem?_eq_some_iff.mp h).1
theorem tabOk : TabOk T where
  nd := by decide +kernel
  d0 := rfl
  nc := rfl
  ms := by decide +kernel
  np := fun f F h => match f, h with
    | 0, h => by cases h; rfl
    | 1, h => by cases h; rfl
    | 2, h => by cases h; rfl
    | 3, h => by cases h; rfl
    | 4, h => by cases h; rfl
    | 5, h => by cases h; rfl
    | 6, h => by cases h; rfl
    | 7, h => by cases h; rfl
    | 8, h => by cases h; rfl
    | 9, h => by cases h; rfl
    | 10, h => by cases h; rfl
    | 11, h => by cases h; rfl
    | 12, h => by cases h; rfl
    | 13, h => by cases h; rfl
    | 14, h => by cases h; rfl
    | 15, h => by cases h; rfl
    | 16, h => by cases h; rfl
    | 17, h => by cases h; rfl
    | 18, h => by cases h; rfl
    | 19, h => by cases h; rfl
    | 20, h => by cases h; rfl
    | 21, h => by cases h; rfl
    | 22, h => by cases h; rfl
    | 23, h => by cases h; rfl
    | 24, h => by cases h; rfl
    | 25, h => by cases h; rfl
    | 26, h => by cases h; rfl
    | 27, h => by cases h; rfl
    | 28, h => by cases h; rfl
    | 29, h => by cases h; rfl
    | 30, h => by cases h; rfl
    | 31, h => by cases h; rfl
    | 32, h => by cases h; rfl
    | 33, h => by cases h; rfl
    | 34, h => by cases h; rfl
    | 35, h => by cases h; rfl
    | 36, h => by cases h; rfl
    | 37, h => by cases h; rfl
    | 38, h => by cases h; rfl
    | 39, h => by cases h; rfl
    | k + 40, h => absurd (lt_of h) (by show ¬ (k + 40 < 40); omega)
  ns := fun f F h => match f, h with
    | 0, h => by cases h; rfl
    | 1, h => by cases h; rfl
    | 2, h => by cases h; rfl
    | 3, h => by cases h; rfl
    | 4, h => by cases h; rfl
    | 5, h => by cases h; rfl
    | 6, h => by cases h; rfl
    | 7, h => by cases h; rfl
    | 8, h => by cases h; rfl
    | 9, h => by cases h; rfl
    | 10, h => by cases h; rfl
    | 11, h => by cases h; rfl
    | 12, h => by cases h; rfl
    | 13, h => by cases h; rfl
    | 14, h => by cases h; rfl
    | 15, h => by cases h; rfl
    | 16, h => by cases h; rfl
    | 17, h => by cases h; rfl
    | 18, h => by cases h; rfl
    | 19, h => by cases h; rfl
    | 20, h => by cases h; rfl
    | 21, h => by cases h; rfl
    | 22, h => by cases h; rfl
    | 23, h => by cases h; rfl
    | 24, h => by cases h; rfl
    | 25, h => by cases h; rfl
    | 26, h => by cases h; rfl
    | 27, h => by cases h; rfl
    | 28, h => by cases h; rfl
    | 29, h => by cases h; rfl
    | 30, h => by cases h; rfl
    | 31, h => by cases h; rfl
    | 32, h => by cases h; rfl
    | 33, h => by cases h; rfl
    | 34, h => by cases h; rfl
    | 35, h => by cases h; rfl
    | 36, h => by cases h; rfl
    | 37, h => by cases h; rfl
    | 38, h => by cases h; rfl
    | 39, h => by cases h; rfl
    | k + 40, h => absurd (lt_of h) (by show ¬ (k + 40 < 40); omega)
  eqb := fun c Cl f h e => match c, h with
    | 0, h => by cases h; cases e; exact ⟨F_Row___eq__, rfl, rfl, by decide +kernel⟩
    | 1, h => by cases h; cases e; exact ⟨F_Step___eq__, rfl, rfl, by decide +kernel⟩
    | k + 2, h => absurd (lt_of h) (by show ¬ (k + 2 < 2); omega)
  len := fun f F h => match f, h with
    | 0, h => ⟨d_is_number, rfl⟩
    | 1, h => ⟨d_pair_of, rfl⟩
    | 2, h => ⟨d_tupled, rfl⟩
    | 3, h => ⟨d_number_in, rfl⟩
    | 4, h => ⟨d_joined, rfl⟩
    | 5, h => ⟨d_in_both, rfl⟩
    | 6, h => ⟨d_left_over, rfl⟩
    | 7, h => ⟨d_Row___init__, rfl⟩
    | 8, h => ⟨d_Row_spans, rfl⟩
    | 9, h => ⟨d_Row_text, rfl⟩
    | 10, h => ⟨d_Row___len__, rfl⟩
    | 11, h => ⟨d_Row___getitem__, rfl⟩
    | 12, h => ⟨d_Row___sub__, rfl⟩
    | 13, h => ⟨d_Row___rshift__, rfl⟩
    | 14, h => ⟨d_Row___eq__, rfl⟩
    | 15, h => ⟨d_is_good, rfl⟩
    | 16, h => ⟨d_filled, rfl⟩
    | 17, h => ⟨d_moved, rfl⟩
    | 18, h => ⟨d_Step___init__, rfl⟩
    | 19, h => ⟨d_Step_of, rfl⟩
    | 20, h => ⟨d_Step_kind, rfl⟩
    | 21, h => ⟨d_Step_amounts, rfl⟩
    | 22, h => ⟨d_Step_text, rfl⟩
    | 23, h => ⟨d_Step___call__, rfl⟩
    | 24, h => ⟨d_Step___eq__, rfl⟩
    | 25, h => ⟨d_edges_of, rfl⟩
    | 26, h => ⟨d__law_box, rfl⟩
    | 27, h => ⟨d__law_take, rfl⟩
    | 28, h => ⟨d__law_cells, rfl⟩
    | 29, h => ⟨d__law_of, rfl⟩
    | 30, h => ⟨d__law_same, rfl⟩
    | 31, h => ⟨d__law_mixed, rfl⟩
    | 32, h => ⟨d__law_pairs, rfl⟩
    | 33, h => ⟨d__law_gathered, rfl⟩
    | 34, h => ⟨d__law_met, rfl⟩
    | 35, h => ⟨d__law_stage, rfl⟩
    | 36, h => ⟨d__law_is_in, rfl⟩
    | 37, h => ⟨d__law_by_hand_right, rfl⟩
    | 38, h => ⟨d__law_right, rfl⟩
    | 39, h => ⟨d_law, rfl⟩
    | k + 40, h => absurd (lt_of h) (by show ¬ (k + 40 < 40); omega)
  sc := fun f d h => match f, h with
    | 0, h => by cases h; exact sc_is_number
    | 1, h => by cases h; exact sc_pair_of
    | 2, h => by cases h; exact sc_tupled
    | 3, h => by cases h; exact sc_number_in
    | 4, h => by cases h; exact sc_joined
    | 5, h => by cases h; exact sc_in_both
    | 6, h => by cases h; exact sc_left_over
    | 7, h => by cases h; exact sc_Row___init__
    | 8, h => by cases h; exact sc_Row_spans
    | 9, h => by cases h; exact sc_Row_text
    | 10, h => by cases h; exact sc_Row___len__
    | 11, h => by cases h; exact sc_Row___getitem__
    | 12, h => by cases h; exact sc_Row___sub__
    | 13, h => by cases h; exact sc_Row___rshift__
    | 14, h => by cases h; exact sc_Row___eq__
    | 15, h => by cases h; exact sc_is_good
    | 16, h => by cases h; exact sc_filled
    | 17, h => by cases h; exact sc_moved
    | 18, h => by cases h; exact sc_Step___init__
    | 19, h => by cases h; exact sc_Step_of
    | 20, h => by cases h; exact sc_Step_kind
    | 21, h => by cases h; exact sc_Step_amounts
    | 22, h => by cases h; exact sc_Step_text
    | 23, h => by cases h; exact sc_Step___call__
    | 24, h => by cases h; exact sc_Step___eq__
    | 25, h => by cases h; exact sc_edges_of
    | 26, h => by cases h; exact sc__law_box
    | 27, h => by cases h; exact sc__law_take
    | 28, h => by cases h; exact sc__law_cells
    | 29, h => by cases h; exact sc__law_of
    | 30, h => by cases h; exact sc__law_same
    | 31, h => by cases h; exact sc__law_mixed
    | 32, h => by cases h; exact sc__law_pairs
    | 33, h => by cases h; exact sc__law_gathered
    | 34, h => by cases h; exact sc__law_met
    | 35, h => by cases h; exact sc__law_stage
    | 36, h => by cases h; exact sc__law_is_in
    | 37, h => by cases h; exact sc__law_by_hand_right
    | 38, h => by cases h; exact sc__law_right
    | 39, h => by cases h; exact sc_law
    | k + 40, h => absurd (lt_of h) (by show ¬ (k + 40 < 40); omega)
  body := fun f F d h e => match f, h, e with
    | 0, h, e => by cases h; cases e; exact cb_is_number
    | 1, h, e => by cases h; cases e; exact cb_pair_of
    | 2, h, e => by cases h; cases e; exact cb_tupled
    | 3, h, e => by cases h; cases e; exact cb_number_in
    | 4, h, e => by cases h; cases e; exact cb_joined
    | 5, h, e => by cases h; cases e; exact cb_in_both
    | 6, h, e => by cases h; cases e; exact cb_left_over
    | 7, h, e => by cases h; cases e; exact cb_Row___init__
    | 8, h, e => by cases h; cases e; exact cb_Row_spans
    | 9, h, e => by cases h; cases e; exact cb_Row_text
    | 10, h, e => by cases h; cases e; exact cb_Row___len__
    | 11, h, e => by cases h; cases e; exact cb_Row___getitem__
    | 12, h, e => by cases h; cases e; exact cb_Row___sub__
    | 13, h, e => by cases h; cases e; exact cb_Row___rshift__
    | 14, h, e => by cases h; cases e; exact cb_Row___eq__
    | 15, h, e => by cases h; cases e; exact cb_is_good
    | 16, h, e => by cases h; cases e; exact cb_filled
    | 17, h, e => by cases h; cases e; exact cb_moved
    | 18, h, e => by cases h; cases e; exact cb_Step___init__
    | 19, h, e => by cases h; cases e; exact cb_Step_of
    | 20, h, e => by cases h; cases e; exact cb_Step_kind
    | 21, h, e => by cases h; cases e; exact cb_Step_amounts
    | 22, h, e => by cases h; cases e; exact cb_Step_text
    | 23, h, e => by cases h; cases e; exact cb_Step___call__
    | 24, h, e => by cases h; cases e; exact cb_Step___eq__
    | 25, h, e => by cases h; cases e; exact cb_edges_of
    | 26, h, e => by cases h; cases e; exact cb__law_box
    | 27, h, e => by cases h; cases e; exact cb__law_take
    | 28, h, e => by cases h; cases e; exact cb__law_cells
    | 29, h, e => by cases h; cases e; exact cb__law_of
    | 30, h, e => by cases h; cases e; exact cb__law_same
    | 31, h, e => by cases h; cases e; exact cb__law_mixed
    | 32, h, e => by cases h; cases e; exact cb__law_pairs
    | 33, h, e => by cases h; cases e; exact cb__law_gathered
    | 34, h, e => by cases h; cases e; exact cb__law_met
    | 35, h, e => by cases h; cases e; exact cb__law_stage
    | 36, h, e => by cases h; cases e; exact cb__law_is_in
    | 37, h, e => by cases h; cases e; exact cb__law_by_hand_right
    | 38, h, e => by cases h; cases e; exact cb__law_right
    | 39, h, e => by cases h; cases e; exact cb_law
    | k + 40, h, e => absurd (lt_of h) (by show ¬ (k + 40 < 40); omega)
def loose0 : List Str := ["_wall", "NoPlace", "BadSpan", "BadText", "BadStep", "is_number", "pair_of", "tupled", "number_in", "is_pair", "is_spans", "joined", "in_both", "left_over", "Row", "AMOUNTS", "is_good", "filled", "moved", "Step", "edges_of", "_law_box", "_law_take", "_law_cells", "_law_of", "_law_same", "_law_mixed", "_law_pairs", "_law_gathered", "_law_met"]
def loose1 : List Str := ["_law_stage", "_law_is_in", "_law_by_hand_right", "_law_right"]
def loose : List Str := loose0 ++ loose1
def ad0 : List PySem.Addr := [3, 6, 4, 21, 40, 62, 75, 97, 107, 114, 119, 124, 129, 134, 141, 148, 153, 292, 297, 302, 309, 314, 373, 384, 391, 398, 405, 412, 417, 424, 431, 438, 445, 452, 457, 462, 467, 472, 0, 20]
def ad1 : List PySem.Addr := [39, 61, 74, 96, 106, 113, 118, 123, 128, 133, 140, 147, 152, 291, 301, 308, 313, 372, 383, 390, 397, 404, 411, 416, 423, 430, 437, 444, 451, 456, 461, 466, 471, 15, 16, 17, 18, 19, 37, 38]
def ad2 : List PySem.Addr := [41, 59, 60, 63, 73, 76, 94, 95, 98, 101, 102, 103, 104, 105, 108, 109, 110, 111, 112, 115, 116, 117, 120, 121, 122, 125, 126, 127, 130, 131, 132, 135, 136, 137, 138, 139, 142, 143, 144, 145]
def ad3 : List PySem.Addr := [146, 149, 150, 151, 167, 174, 183, 189, 197, 203, 211, 216, 223, 230, 237, 244, 249, 256, 263, 270, 275, 282, 289, 290, 293, 294, 298, 299, 300, 303, 304, 305, 306, 307, 310, 311, 312, 328, 335, 344]
def ad4 : List PySem.Addr := [352, 358, 363, 370, 371, 374, 375, 378, 379, 380, 381, 382, 385, 386, 387, 388, 389, 392, 393, 394, 395, 396, 399, 400, 401, 402, 403, 406, 407, 408, 409, 410, 413, 414, 415, 418, 419, 420, 421, 422]
def ad5 : List PySem.Addr := [425, 426, 427, 428, 429, 432, 433, 434, 435, 436, 439, 440, 441, 442, 443, 446, 447, 448, 449, 450, 453, 454, 455, 458, 459, 460, 463, 464, 465, 468, 469, 470, 36, 25, 58, 47, 93, 82, 166, 162]
def ad6 : List PySem.Addr := [172, 173, 182, 188, 196, 202, 210, 215, 222, 229, 236, 243, 248, 255, 262, 269, 274, 281, 288, 327, 333, 334, 343, 351, 357, 362, 369, 31, 32, 33, 34, 35, 53, 54, 55, 56, 57, 88, 89, 90]
def ad7 : List PySem.Addr := [91, 92, 163, 164, 165, 161, 171, 175, 181, 187, 195, 201, 209, 212, 213, 214, 217, 218, 219, 220, 221, 224, 225, 226, 227, 228, 231, 232, 233, 234, 235, 238, 239, 240, 241, 242, 245, 246, 247, 250]
def ad8 : List PySem.Addr := [251, 252, 253, 254, 257, 258, 259, 260, 261, 264, 265, 266, 267, 268, 271, 272, 273, 276, 277, 278, 279, 280, 283, 284, 285, 286, 287, 322, 323, 324, 325, 326, 332, 336, 342, 350, 356, 359, 360, 361]
def ad9 : List PySem.Addr := [364, 365, 366, 367, 368, 2]
def ads : List PySem.Addr := ad0 ++ ad1 ++ ad2 ++ ad3 ++ ad4 ++ ad5 ++ ad6 ++ ad7 ++ ad8 ++ ad9
abbrev Rw : PySem.W.OpenRow := PySem.W.OpenLaw.row PySem.Challenge.rw_cleanspans_k05_what_one_step_makes
abbrev hk : PySem.W.Hook := hookC ads T
def ob (s : PySem.W.SharedT) : He.AlT := obsCG ads T (HandSHeadRun.getT s)
theorem ob_eq (s : PySem.W.SharedT) : ob s = hk.obs s.abs := obsCG_eq (HandSHeadRun.getT_eq s)
theorem run_false (w : World) : HandSHeadRun.RunEq Rw (PySem.W.view Rw.prog [39]) hk ob 8000 loose (w.withFollow "special-get-raises" false) := by
  intro os
  kernel_rfl
theorem run_true (w : World) : HandSHeadRun.RunEq Rw (PySem.W.view Rw.prog [39]) hk ob 8000 loose (w.withFollow "special-get-raises" true) := by
  intro os
  kernel_rfl
theorem run (w : World) : HandSHeadRun.RunEq Rw (PySem.W.view Rw.prog [39]) hk ob 8000 loose w := PySem.W.byRow2 "special-get-raises" (P := fun w => HandSHeadRun.RunEq Rw (PySem.W.view Rw.prog [39]) hk ob 8000 loose w) run_false run_true w
theorem bL : ∀ K fd, FdOk T K fd → ∀ (s : Shared) (u : Value), BindsTo s (fd i_law) ⟨[u], []⟩ [("_law_script", u)] := by
  intro K fd hf s u
  have F := hf i_law d_law rfl
  have b := FunD.bindsA (ps := ["_law_script"]) F fun _ _ _ _ _ _ us hl => match us, hl with | [_], _ => rfl
  exact b s [u] rfl
end LK
end LKb_

section
set_option maxRecDepth 100000
set_option maxHeartbeats 0
namespace LK
open PySem (Str)
open CS
/-! ### draws -/
def urn (a b k : Int) : Cell := .lst [.int a, .int b, .int k]
def U (n : Nat) (c : Cell) : Prop := ∃ a b k : Int, c = urn a b k ∧ 0 ≤ k ∧ k ≤ n
theorem U.pure {n : Nat} {c : Cell} (h : U n c) : c.pureB = true := by obtain ⟨a, b, k, rfl, _⟩ := h; rfl
theorem U.mono {n m : Nat} {c : Cell} (h : U n c) (hl : n ≤ m) : U m c := by obtain ⟨a, b, k, rfl, h1, h2⟩ := h; exact ⟨a, b, k, rfl, h1, by omega⟩
theorem mulOk_r {i j : Int} (h : j.natAbs < 2 ^ 64) : mulOk i j = true := by unfold mulOk; simp [h]
theorem mulOk_l {i j : Int} (h : i.natAbs < 2 ^ 64) : mulOk i j = true := by unfold mulOk; simp [h]
theorem take_ok {d n : Nat} {s : SH} {u : Nat} {c : Cell} (hu : s[u]? = some c) (hc : U n c) (hn : n ≤ 2 ^ 40) {j : Int} (hj : 0 < j) (hj2 : j.natAbs.log2 < 9000) :
    ∃ r c', 0 ≤ r ∧ r < j ∧ U (n + 1) c' ∧ callF G (d + 1) i__law_take [.ref u, .int j] s = .ok (.int r) (s.set u c') := by
  obtain ⟨a, b, k, rfl, h1, h2⟩ := hc
  by_cases ha : 0 < a
  · refine ⟨a % j, urn (a / j) b k, Int.emod_nonneg _ (by omega), Int.emod_lt_of_pos _ hj, ⟨_, _, _, rfl, h1, by omega⟩, call_mu g__law_take rfl rfl hu rfl rfl rfl (v := .int (a % j)) (s3 := [urn (a / j) b k]) ?_ rfl rfl rfl⟩
    simp [F__law_take, B__law_take, urn, ixN, ha, hj, hj2]
  · have e1 : mulOk (b + 48271 * (k + 1)) (39373 + (k + 1)) = true := mulOk_r (by omega)
    have e2 : mulOk 48271 (k + 1) = true := mulOk_l (by decide)
    have hb : ∀ x : Int, (x % 40009 + 7).natAbs < 2 ^ 64 := fun x => by omega
    have e3 : ∀ x y : Int, mulOk x (y % 40009 + 7) = true := fun x y => mulOk_r (hb y)
    have e4 : ∀ x : Int, mulOk x 48271 = true := fun x => mulOk_r (by decide)
    have key : ∃ x : Int, exs G (callF G d) B__law_take [some (.ref 0), some (.int j), none, none, none, none] [urn a b k] = .ret (.int (x % j)) [urn a b (k + 1)] := by
      refine ⟨?x, ?h⟩
      case h =>
        simp [B__law_take, urn, ixN, ha, hj, hj2, e1, e2, e3, e4]
        rfl
    obtain ⟨x, hx⟩ := key
    exact ⟨x % j, urn a b (k + 1), Int.emod_nonneg _ (by omega), Int.emod_lt_of_pos _ hj, ⟨_, _, _, rfl, by omega, by omega⟩, call_mu g__law_take rfl rfl hu rfl rfl rfl hx rfl rfl rfl⟩

/-! ### rows of spans: what the program's functions compute -/
def P2 (p : Int × Int) : PV := .tup [.int p.1, .int p.2]
@[simp] theorem P2_pure (p : Int × Int) : (P2 p).pureB = true := rfl
@[simp] theorem P2_nr (p : Int × Int) : (P2 p).nrB = true := rfl
@[simp] theorem P2L_pure (ps : List (Int × Int)) : PV.pureL (ps.map P2) = true := pureL_map fun p _ => rfl
@[simp] theorem P2L_nr (ps : List (Int × Int)) : PV.nrL (ps.map P2) = true := nrL_map fun p _ => rfl
@[simp] theorem getPairs_P2 (ps : List (Int × Int)) : getPairs (ps.map P2) = some ps := by
  induction ps with
  | nil => rfl
  | cons p ps ih => simp [P2, getPairs] at ih ⊢; simp [ih]
theorem sort_P2 (ps : List (Int × Int)) : (sortP ps).map (fun p => PV.tup [.int p.1, .int p.2]) = (sortP ps).map P2 := rfl
theorem insP_length (p : Int × Int) : ∀ qs, (insP p qs).length = qs.length + 1
  | [] => rfl
  | q :: qs => by unfold insP; split <;> simp [insP_length p qs]
@[simp] theorem sortP_length : ∀ ps, (sortP ps).length = ps.length
  | [] => rfl
  | p :: ps => by simp [sortP, insP_length, sortP_length ps]
def joinStep (acc : List (Int × Int)) (p : Int × Int) : List (Int × Int) := match acc.getLast? with
  | some q => if p.1 ≤ q.2 then acc.dropLast ++ [(q.1, max q.2 p.2)] else acc ++ [p]
  | none => acc ++ [p]
def joinP (ps : List (Int × Int)) : List (Int × Int) := (sortP ps).foldl joinStep []
theorem joinStep_len (acc : List (Int × Int)) (p : Int × Int) : (joinStep acc p).length ≤ acc.length + 1 := by
  unfold joinStep
  split
  · split
    · simp
    · simp
  · simp
theorem joined_ok {d : Nat} {s : SH} {ps : List (Int × Int)} (hl : ps.length ≤ 1000000) : callF G (d + 1) i_joined [.rol (ps.map P2)] s = .ok (.tup ((joinP ps).map P2)) s := by
  obtain ⟨σ', s', h1, h2⟩ := for_items (g := P2) (body := turnF G (callF G d) (.names [2, 3]) (match B_joined with | .cons _ (.cons (.for_ _ _ b) _) => b | _ => .nil)) (σ := [some (.rol (ps.map P2)), some (.ref 0), none, none]) (s := [.lst []]) (sortP ps)
    (fun done σ s => ∃ l1 l2, σ = [some (.rol (ps.map P2)), some (.ref 0), l1, l2] ∧ s = [.lst ((done.foldl joinStep []).map P2)] ∧ (done.foldl joinStep []).length ≤ done.length)
    ⟨none, none, rfl, rfl, Nat.le_refl _⟩ (fun done p rest σ s e ⟨l1, l2, hσ, hs, hn⟩ => by
      subst hσ; subst hs
      have hd : done.length ≤ 1000000 := by have := congrArg List.length e; simp at this; omega
      have hn2 : (joinStep (done.foldl joinStep []) p).length ≤ done.length + 1 := Nat.le_trans (joinStep_len _ _) (by omega)
      refine ⟨[some (.rol (ps.map P2)), some (.ref 0), some (.int p.1), some (.int p.2)], [.lst ((joinStep (done.foldl joinStep []) p).map P2)], .inl ?_, some (.int p.1), some (.int p.2), rfl, by simp, by simpa using hn2⟩
      generalize hacc : done.foldl joinStep [] = acc at hn
      have hlt : acc.length < 16777216 := Nat.lt_of_le_of_lt hn (Nat.lt_of_le_of_lt hd (by decide))
      rcases List.eq_nil_or_concat acc with rfl | ⟨ys, q, rfl⟩
      · simp [B_joined, P2, joinStep]
      · have hlt' : ys.length + 1 < 16777216 := by simpa using hlt
        by_cases hq : p.1 ≤ q.2
        · simp [B_joined, P2, joinStep, hq]
        · simp [B_joined, P2, joinStep, hq, hlt'])
  obtain ⟨l1, l2, rfl, rfl, _⟩ := h2
  refine call_pure g_joined rfl rfl (by simp) rfl (v := .tup ((joinP ps).map P2)) (s3 := [.lst ((joinP ps).map P2)]) ?_ (fzP (by simp) 16)
  simp only [F_joined]
  simp [B_joined, sort_P2]
  simp [B_joined] at h1
  rw [h1]
  simp [joinP]

theorem mapM_map_some {X Y Z : Type} {f : Y → Option Z} {g : X → Y} {h : X → Z} : ∀ {xs : List X}, (∀ x ∈ xs, f (g x) = some (h x)) → (xs.map g).mapM f = some (xs.map h)
  | [], _ => rfl
  | x :: xs, H => by
    rw [List.map_cons, List.mapM_cons, H x (List.mem_cons_self ..), mapM_map_some fun y hy => H y (List.mem_cons_of_mem _ hy)]; rfl
def D2 (p : Int × Int) : Da := .tup [.int p.1, .int p.2]
theorem daOf_P2 (h : List Cell) (d : Nat) (p : Int × Int) : daOf h (d + 1) (P2 p) = some (D2 p) := by cases d <;> rfl
theorem eqvL_D2 : ∀ ps qs : List (Int × Int), Da.eqvL (ps.map D2) (qs.map D2) = decide (ps = qs)
  | [], [] => rfl
  | [], q :: qs => by simp [Da.eqvL]
  | p :: ps, [] => by simp [Da.eqvL]
  | (a, b) :: ps, (c, e) :: qs => by
    simp only [List.map_cons, Da.eqvL, D2, Da.eqv]
    have := eqvL_D2 ps qs
    rw [this]
    by_cases h1 : a = c <;> by_cases h2 : b = e <;> by_cases h3 : ps = qs <;> simp [h1, h2, h3]
@[simp] theorem eqP_P2 (h : List Cell) (ps qs : List (Int × Int)) : eqP h (.tup (ps.map P2)) (.tup (qs.map P2)) = some (decide (ps = qs)) := by
  have e : ∀ ps : List (Int × Int), daOf h 8 (.tup (ps.map P2)) = some (.tup (ps.map D2)) := fun ps => by
    simp only [daOf, mapM_map_some fun p _ => daOf_P2 h 6 p]; rfl
  unfold eqP
  rw [e, e]
  simp only [Option.bind_some, Option.map_some, Da.eqv, eqvL_D2]
theorem pair_of_ok {d : Nat} {s : SH} {p : Int × Int} : callF G (d + 1) i_pair_of [P2 p] s = .ok (P2 p) s := by
  refine call_pure g_pair_of rfl rfl rfl rfl (v := P2 p) (s3 := []) ?_ rfl
  simp [F_pair_of, B_pair_of, P2]
def rowV (ps : List (Int × Int)) : PV := .obj c_Row [.tup (ps.map P2)]
@[simp] theorem rowV_pure (ps : List (Int × Int)) : (rowV ps).pureB = true := by simp [rowV]
@[simp] theorem rowV_nr (ps : List (Int × Int)) : (rowV ps).nrB = true := by simp [rowV]
theorem row_init {d : Nat} {v : PV} {ps : List (Int × Int)} (hv : v = .tup (ps.map P2) ∨ v = .rol (ps.map P2)) (hl : ps.length ≤ 1000000) (ho : ∀ p ∈ ps, p.1 < p.2) :
    callF G (d + 2) i_Row___init__ [.ref 0, v] [.ins c_Row []] = .ok .non [.ins c_Row [(a_own_spans, .tup ((joinP ps).map P2))]] := by
  have hvp : v.pureB = true := by rcases hv with rfl | rfl <;> simp
  have hsrc : ∀ s : SH, srcOf s v = some (.items (ps.map P2)) := fun s => by rcases hv with rfl | rfl <;> rfl
  have hcomp : ∀ s, compS (.items (ps.map P2)) (turnC G (callF G (d + 1)) (.call i_pair_of (.cons (.v 2) .nil) .nil []) (.name 2) .yes [some (.ref 0), some v, none, none, none]) (ps.length + 1) 0 [] s = .ok (ps.map P2) s := fun s =>
    comp_map (fun p _ => by simp [pair_of_ok]) (by omega)
  obtain ⟨σ', s', h1, h2⟩ := for_items (g := P2) (body := turnF G (callF G (d + 1)) (.name 2) (match B_Row___init__ with | .cons _ (.cons (.for_ _ _ b) _) => b | _ => .nil)) (σ := [some (.ref 0), some v, none, some (.rol (ps.map P2)), none]) (s := [.ins c_Row []]) ps
    (fun done σ s => ∃ l, σ = [some (.ref 0), some v, l, some (.rol (ps.map P2)), none] ∧ s = [.ins c_Row []]) ⟨none, rfl, rfl⟩ (fun done p rest σ s e ⟨l, hσ, hs⟩ => by
      subst hσ; subst hs
      have hp := ho p (by rw [e]; simp)
      refine ⟨[some (.ref 0), some v, some (P2 p), some (.rol (ps.map P2)), none], [.ins c_Row []], .inl ?_, some (P2 p), rfl, rfl⟩
      have : ¬ p.2 ≤ p.1 := by omega
      simp [B_Row___init__, P2, this])
  obtain ⟨l, rfl, rfl⟩ := h2
  refine call_muN (n := 0) (us := [v]) (c := .ins c_Row []) g_Row___init__ rfl rfl rfl rfl (by simp [hvp]) rfl (σ := [some (.ref 0), some v, l, some (.rol (ps.map P2)), none]) (s3 := [.ins c_Row [(a_own_spans, .tup ((joinP ps).map P2))]]) ?_ rfl (by simp [Cell.pureB, Cell.vals])
  simp only [F_Row___init__]
  simp [B_Row___init__] at h1
  simp [B_Row___init__, hsrc, hcomp, h1, joined_ok hl, setAttr, putA]
theorem mk_row {d : Nat} {s : SH} {v : PV} {ps : List (Int × Int)} (hv : v = .tup (ps.map P2) ∨ v = .rol (ps.map P2)) (hl : ps.length ≤ 1000000) (ho : ∀ p ∈ ps, p.1 < p.2) :
    mkV G (callF G (d + 2)) c_Row [v] [] s = .ok (rowV (joinP ps)) s :=
  mk_pure (full := [.ref 0, v]) (C := ⟨i_Row___init__, G.cls[c_Row].meths, G.cls[c_Row].props, [a_own_spans]⟩) rfl (by rcases hv with rfl | rfl <;> simp) rfl (row_init hv hl ho) rfl (by simp)

/-! ### the law's own helpers -/
theorem take0 {d n : Nat} {t : SH} {c : Cell} (hc : U n c) (hn : n ≤ 2 ^ 40) {j : Int} (hj : 0 < j) (hj2 : j.natAbs.log2 < 9000) :
    ∃ r c', 0 ≤ r ∧ r < j ∧ U (n + 1) c' ∧ callF G (d + 1) i__law_take [.ref 0, .int j] (c :: t) = .ok (.int r) (c' :: t) := by
  obtain ⟨r, c', h1, h2, h3, h4⟩ := take_ok (d := d) (s := c :: t) (u := 0) rfl hc hn hj hj2
  exact ⟨r, c', h1, h2, h3, by simpa using h4⟩
theorem of0 {d n : Nat} {t : SH} {c : Cell} (hc : U n c) (hn : n ≤ 2 ^ 40) {xs : List PV} (hx : xs ≠ []) (hp : PV.pureL xs = true) (hl : xs.length ≤ 1000000) :
    ∃ v c', v ∈ xs ∧ U (n + 1) c' ∧ callF G (d + 2) i__law_of [.ref 0, .rol xs] (c :: t) = .ok v (c' :: t) := by
  have h0 : 0 < xs.length := List.length_pos_iff.mpr hx
  obtain ⟨r, c', h1, h2, h3, h4⟩ := take0 (d := d) (t := []) hc hn (j := (xs.length : Int)) (by omega) (by
    rw [Int.natAbs_natCast]
    exact log2_lit (Nat.lt_of_le_of_lt hl (by decide)))
  obtain ⟨k, rfl⟩ := Int.eq_ofNat_of_zero_le h1
  have hk : k < xs.length := by omega
  refine ⟨xs[k], c', List.getElem_mem hk, h3, ?_⟩
  have := call_mu (s := c :: t) (n := 0) (d := d + 1) (us := [.rol xs]) (v := xs[k]) (s3 := [c']) (w := xs[k]) g__law_of rfl rfl rfl hc.pure (by simp [hp]) rfl ?_ rfl h3.pure (fzP (pureL_iff.mp hp _ (List.getElem_mem hk)) 16)
  · simpa using this
  · simp [F__law_of, B__law_of, h4, ixN_nat hk, hk]
def dat : Nat → PV → Bool
  | 0, v => match v with
    | .int _ => true
    | .bl _ => true
    | .non => true
    | .str s => s.cps.toList.all fun c => decide (c < 0x110000)
    | _ => false
  | k + 1, v => match v with
    | .int _ => true
    | .bl _ => true
    | .non => true
    | .str s => s.cps.toList.all fun c => decide (c < 0x110000)
    | .tup xs => decide (xs.length ≤ 1000000) && xs.all (dat k)
    | .rol xs => decide (xs.length ≤ 1000000) && xs.all (dat k)
    | _ => false
theorem dat_pure : ∀ (k : Nat) (v : PV), dat k v = true → v.pureB = true
  | 0, v, h => by cases v <;> first | rfl | cases h
  | k + 1, v, h => by
    cases v with
    | tup xs =>
      simp only [dat, Bool.and_eq_true, List.all_eq_true] at h
      exact pureL_iff.mpr fun x hx => dat_pure k x (h.2 x hx)
    | rol xs =>
      simp only [dat, Bool.and_eq_true, List.all_eq_true] at h
      exact pureL_iff.mpr fun x hx => dat_pure k x (h.2 x hx)
    | _ => first | rfl | cases h
@[simp] theorem getBools_bl {X : Type} (f : X → Bool) (xs : List X) : getBools (xs.map fun x => PV.bl (f x)) = some (xs.map f) := by
  induction xs with
  | nil => rfl
  | cons x xs ih => simp [getBools, ih]
@[simp] theorem isTy_int_int (h : List Cell) (i : Int) : isTy h .int (.int i) = some true := rfl
@[simp] theorem isTy_bool_int (h : List Cell) (i : Int) : isTy h .bool (.int i) = some false := rfl
@[simp] theorem isTy_str_int (h : List Cell) (i : Int) : isTy h .str (.int i) = some false := rfl
@[simp] theorem isTy_list_int (h : List Cell) (i : Int) : isTy h .list (.int i) = some false := rfl
@[simp] theorem isTy_tuple_int (h : List Cell) (i : Int) : isTy h .tuple (.int i) = some false := rfl
@[simp] theorem isTy_int_bl (h : List Cell) (i : Bool) : isTy h .int (.bl i) = some true := rfl
@[simp] theorem isTy_bool_bl (h : List Cell) (i : Bool) : isTy h .bool (.bl i) = some true := rfl
@[simp] theorem isTy_list_bl (h : List Cell) (i : Bool) : isTy h .list (.bl i) = some false := rfl
@[simp] theorem isTy_tuple_bl (h : List Cell) (i : Bool) : isTy h .tuple (.bl i) = some false := rfl
@[simp] theorem isTy_list_tup (h : List Cell) (i : List PV) : isTy h .list (.tup i) = some false := rfl
@[simp] theorem isTy_tuple_tup (h : List Cell) (i : List PV) : isTy h .tuple (.tup i) = some true := rfl
@[simp] theorem isTy_list_rol (h : List Cell) (i : List PV) : isTy h .list (.rol i) = some true := rfl
@[simp] theorem isTy_tuple_rol (h : List Cell) (i : List PV) : isTy h .tuple (.rol i) = some false := rfl
@[simp] theorem isTy_list_non (h : List Cell) : isTy h .list .non = some false := rfl
@[simp] theorem isTy_tuple_non (h : List Cell) : isTy h .tuple .non = some false := rfl
@[simp] theorem isTy_bool_non (h : List Cell) : isTy h .bool .non = some false := rfl
@[simp] theorem isTy_str_non (h : List Cell) : isTy h .str .non = some false := rfl
@[simp] theorem isTy_own_obj (h : List Cell) (c d : Nat) (i : List PV) : isTy h (.own d) (.obj c i) = some (decide (c = d)) := rfl
@[simp] theorem eqP_non (h : List Cell) : eqP h .non .non = some true := rfl
theorem same_int {d : Nat} {i : Int} {s : SH} : callF G (d + 1) i__law_same [.int i, .int i] s = .ok (.bl true) s := by
  refine call_pure g__law_same rfl rfl rfl rfl (v := .bl true) (s3 := []) ?_ rfl
  simp [F__law_same, B__law_same]
theorem same_bl {d : Nat} {i : Bool} {s : SH} : callF G (d + 1) i__law_same [.bl i, .bl i] s = .ok (.bl true) s := by
  refine call_pure g__law_same rfl rfl rfl rfl (v := .bl true) (s3 := []) ?_ rfl
  simp [F__law_same, B__law_same]
theorem same_non {d : Nat} {s : SH} : callF G (d + 1) i__law_same [.non, .non] s = .ok (.bl true) s := by
  refine call_pure g__law_same rfl rfl rfl rfl (v := .bl true) (s3 := []) ?_ rfl
  simp [F__law_same, B__law_same]
@[simp] theorem isTy_list_str (h : List Cell) (i : Str) : isTy h .list (.str i) = some false := rfl
@[simp] theorem isTy_tuple_str (h : List Cell) (i : Str) : isTy h .tuple (.str i) = some false := rfl
@[simp] theorem isTy_bool_str (h : List Cell) (i : Str) : isTy h .bool (.str i) = some false := rfl
@[simp] theorem isTy_str_str (h : List Cell) (i : Str) : isTy h .str (.str i) = some true := rfl
@[simp] theorem isN_str (i : Str) : (PV.str i).isN = false := rfl
theorem eqP_str {h : List Cell} {i : Str} (hi : i.cps.toList.all (fun c => decide (c < 0x110000)) = true) : eqP h (.str i) (.str i) = some true := by
  unfold eqP
  simp only [daOf, hi, if_true, Option.bind_some, Option.map_some, Da.eqv, decide_true]
theorem same_str {d : Nat} {i : Str} {s : SH} (hi : i.cps.toList.all (fun c => decide (c < 0x110000)) = true) : callF G (d + 1) i__law_same [.str i, .str i] s = .ok (.bl true) s := by
  refine call_pure g__law_same rfl rfl rfl rfl (v := .bl true) (s3 := []) ?_ rfl
  have e := fun h => eqP_str (h := h) hi
  simp [F__law_same, B__law_same, e]
theorem same_refl (k d : Nat) (v : PV) (s : SH) (h : dat k v = true) : callF G (d + k + 1) i__law_same [v, v] s = .ok (.bl true) s := by
  induction k generalizing d v s with
  | zero =>
    cases v with
    | int i => exact same_int
    | bl i => exact same_bl
    | non => exact same_non
    | str i => exact same_str h
    | _ => cases h
  | succ k ih =>
    have hp := dat_pure _ _ h
    cases v with
    | int i => exact same_int
    | bl i => exact same_bl
    | non => exact same_non
    | str i => exact same_str h
    | tup xs =>
      simp only [dat, Bool.and_eq_true, List.all_eq_true, decide_eq_true_eq] at h
      refine call_pure g__law_same rfl rfl (by simp at hp; simp [hp]) rfl (v := .bl true) (s3 := []) ?_ rfl
      have hc : compS (.items (xs.map fun x => tup2 x x)) (turnC G (callF G (d + (k + 1))) (.call i__law_same (.cons (.v 3) (.cons (.v 4) .nil)) .nil []) (.names [3, 4]) .yes [some (.tup xs), some (.tup xs), none, none, none]) (xs.length + 1) 0 [] [] = .ok (xs.map fun _ => .bl true) [] :=
        comp_map (g := fun x => tup2 x x) (fun x hx => by
          have e : callF G (d + (k + 1)) i__law_same [x, x] [] = .ok (.bl true) [] := ih d x [] (h.2 x hx)
          simp [tup2, e]) (by omega)
      simp [F__law_same, B__law_same, List.zipWith_self, hc, -List.map_const]
    | rol xs =>
      simp only [dat, Bool.and_eq_true, List.all_eq_true, decide_eq_true_eq] at h
      refine call_pure g__law_same rfl rfl (by simp at hp; simp [hp]) rfl (v := .bl true) (s3 := []) ?_ rfl
      have hc : compS (.items (xs.map fun x => tup2 x x)) (turnC G (callF G (d + (k + 1))) (.call i__law_same (.cons (.v 3) (.cons (.v 4) .nil)) .nil []) (.names [3, 4]) .yes [some (.rol xs), some (.rol xs), none, none, none]) (xs.length + 1) 0 [] [] = .ok (xs.map fun _ => .bl true) [] :=
        comp_map (g := fun x => tup2 x x) (fun x hx => by
          have e : callF G (d + (k + 1)) i__law_same [x, x] [] = .ok (.bl true) [] := ih d x [] (h.2 x hx)
          simp [tup2, e]) (by omega)
      simp [F__law_same, B__law_same, List.zipWith_self, hc, -List.map_const]
    | _ => cases h

/-! ### spans that are apart -/
def Sep (ps : List (Int × Int)) : Prop := ps.Pairwise (fun p q => p.2 < q.1) ∧ ∀ p ∈ ps, p.1 < p.2
theorem insP_head {p : Int × Int} {qs : List (Int × Int)} (h : ∀ q ∈ qs, p.1 < q.1) : insP p qs = p :: qs := by
  cases qs with
  | nil => rfl
  | cons q qs =>
    unfold insP
    have := h q (List.mem_cons_self ..)
    rw [if_pos (by unfold leP; simp [this])]
theorem sortP_sep : ∀ {ps : List (Int × Int)}, Sep ps → sortP ps = ps
  | [], _ => rfl
  | p :: ps, h => by
    obtain ⟨h1, h2⟩ := h
    rw [List.pairwise_cons] at h1
    have e : sortP ps = ps := sortP_sep ⟨h1.2, fun q hq => h2 q (List.mem_cons_of_mem _ hq)⟩
    unfold sortP
    rw [e]
    refine insP_head fun q hq => ?_
    have a := h1.1 q hq
    have b := h2 p (List.mem_cons_self ..)
    omega
theorem foldl_sep : ∀ (rest acc : List (Int × Int)), (acc ++ rest).Pairwise (fun p q => p.2 < q.1) → rest.foldl joinStep acc = acc ++ rest
  | [], acc, _ => by simp
  | p :: rest, acc, h => by
    have hs : joinStep acc p = acc ++ [p] := by
      unfold joinStep
      rcases List.eq_nil_or_concat acc with rfl | ⟨ys, q, rfl⟩
      · rfl
      · have hq : q.2 < p.1 := by
          rw [List.pairwise_append] at h
          exact h.2.2 q (by simp) p (by simp)
        simp [show ¬ p.1 ≤ q.2 by omega]
    rw [List.foldl_cons, hs, foldl_sep rest (acc ++ [p]) (by simpa using h)]
    simp
theorem joinP_sep {ps : List (Int × Int)} (h : Sep ps) : joinP ps = ps := by
  unfold joinP
  rw [sortP_sep h]
  exact foldl_sep ps [] (by simpa using h.1)
def Ord (ps : List (Int × Int)) : Prop := ps.Pairwise (fun p q => p.1 ≤ q.1)
theorem mem_insP {p q : Int × Int} : ∀ {qs : List (Int × Int)}, q ∈ insP p qs ↔ q = p ∨ q ∈ qs
  | [] => by simp [insP]
  | r :: qs => by
    unfold insP
    split
    · simp
    · simp only [List.mem_cons, mem_insP (qs := qs)]
      constructor
      · rintro (h | h | h) <;> simp [h]
      · rintro (h | h | h) <;> simp [h]
theorem mem_sortP {q : Int × Int} : ∀ {ps : List (Int × Int)}, q ∈ sortP ps ↔ q ∈ ps
  | [] => by simp [sortP]
  | p :: ps => by simp only [sortP, mem_insP, mem_sortP (ps := ps), List.mem_cons]
theorem insP_ord {p : Int × Int} : ∀ {qs : List (Int × Int)}, Ord qs → Ord (insP p qs)
  | [], _ => by simp [insP, Ord]
  | q :: qs, h => by
    unfold Ord at h ⊢
    rw [List.pairwise_cons] at h
    unfold insP
    split
    · rename_i hl
      have hpq : p.1 ≤ q.1 := by
        unfold leP at hl
        simp only [Bool.or_eq_true, decide_eq_true_eq, Bool.and_eq_true] at hl
        omega
      rw [List.pairwise_cons, List.pairwise_cons]
      refine ⟨fun r hr => ?_, h⟩
      rcases List.mem_cons.mp hr with rfl | hr
      · exact hpq
      · exact Int.le_trans hpq (h.1 r hr)
    · rename_i hl
      have hqp : q.1 ≤ p.1 := by
        unfold leP at hl
        simp only [Bool.or_eq_true, decide_eq_true_eq, Bool.and_eq_true, not_or] at hl
        omega
      rw [List.pairwise_cons]
      refine ⟨fun r hr => ?_, insP_ord h.2⟩
      rcases mem_insP.mp hr with rfl | hr
      · exact hqp
      · exact h.1 r hr
theorem sortP_ord : ∀ ps : List (Int × Int), Ord (sortP ps)
  | [] => by simp [sortP, Ord]
  | p :: ps => insP_ord (sortP_ord ps)
theorem foldl_sep2 : ∀ (rest acc : List (Int × Int)), Sep acc → (∀ p ∈ rest, p.1 < p.2) → Ord rest → (∀ q ∈ acc, ∀ p ∈ rest, q.1 ≤ p.1) → Sep (rest.foldl joinStep acc)
  | [], acc, h, _, _, _ => h
  | p :: rest, acc, h, hv, ho, hc => by
    have hp := hv p (List.mem_cons_self ..)
    unfold Ord at ho
    rw [List.pairwise_cons] at ho
    rw [List.foldl_cons]
    have key : Sep (joinStep acc p) ∧ ∀ q ∈ joinStep acc p, q.1 ≤ p.1 := by
      unfold joinStep
      rcases List.eq_nil_or_concat acc with rfl | ⟨ys, q, rfl⟩
      · refine ⟨⟨by simp, fun r hr => ?_⟩, fun r hr => ?_⟩ <;> (simp at hr; subst hr)
        · exact hp
        · exact Int.le_refl _
      · simp only [List.concat_eq_append] at h hc ⊢
        obtain ⟨h1, h2⟩ := h
        rw [List.pairwise_append] at h1
        have hq := h2 q (by simp)
        have hqp := hc q (by simp) p (by simp)
        simp only [List.getLast?_append, List.getLast?_singleton, Option.or_some, List.dropLast_concat, Option.some_or]
        split
        · refine ⟨⟨?_, fun r hr => ?_⟩, fun r hr => ?_⟩
          · rw [List.pairwise_append]
            refine ⟨h1.1, by simp, fun a ha b hb => ?_⟩
            simp at hb; subst hb
            exact h1.2.2 a ha q (by simp)
          · rcases List.mem_append.mp hr with hr | hr
            · exact h2 r (by simp [hr])
            · simp at hr; subst hr
              show q.1 < max q.2 p.2
              omega
          · rcases List.mem_append.mp hr with hr | hr
            · exact hc r (by simp [hr]) p (by simp)
            · simp at hr; subst hr; exact hqp
        · rename_i hlt
          refine ⟨⟨?_, fun r hr => ?_⟩, fun r hr => ?_⟩
          · rw [List.pairwise_append]
            refine ⟨by rw [List.pairwise_append]; exact h1, by simp, fun a ha b hb => ?_⟩
            simp at hb; subst hb
            rcases List.mem_append.mp ha with ha | ha
            · have a1 := h1.2.2 a ha q (by simp)
              omega
            · simp at ha; subst ha; omega
          · rcases List.mem_append.mp hr with hr | hr
            · exact h2 r hr
            · simp at hr; subst hr; exact hp
          · rcases List.mem_append.mp hr with hr | hr
            · exact hc r hr p (by simp)
            · simp at hr; subst hr; exact Int.le_refl _
    exact foldl_sep2 rest _ key.1 (fun r hr => hv r (List.mem_cons_of_mem _ hr)) ho.2 fun q hq r hr => Int.le_trans (key.2 q hq) (ho.1 r hr)
theorem joinP_isSep {ps : List (Int × Int)} (h : ∀ p ∈ ps, p.1 < p.2) : Sep (joinP ps) :=
  foldl_sep2 (sortP ps) [] ⟨by simp, by simp⟩ (fun p hp => h p (mem_sortP.mp hp)) (sortP_ord ps) (by simp)
def chainB (ps : List (Int × Int)) : Bool := (List.zipWith (fun p q : Int × Int => decide (p.2 < q.1)) ps ps.tail).all id
theorem chain_sep : ∀ {ps : List (Int × Int)}, (∀ p ∈ ps, p.1 < p.2) → (chainB ps = true ↔ Sep ps)
  | [], _ => by simp [chainB, Sep]
  | [p], h => by simp only [chainB, List.tail_cons, List.zipWith_nil_right, List.all_nil, true_iff]; exact ⟨by simp, h⟩
  | p :: q :: ps, h => by
    have ih := chain_sep (ps := q :: ps) fun r hr => h r (List.mem_cons_of_mem _ hr)
    have e : chainB (p :: q :: ps) = (decide (p.2 < q.1) && chainB (q :: ps)) := by simp [chainB]
    rw [e, Bool.and_eq_true, ih, decide_eq_true_eq]
    constructor
    · rintro ⟨h1, h2, h3⟩
      refine ⟨?_, h⟩
      rw [List.pairwise_cons]
      refine ⟨fun r hr => ?_, h2⟩
      rcases List.mem_cons.mp hr with rfl | hr
      · exact h1
      · rw [List.pairwise_cons] at h2
        have a := h2.1 r hr
        have b := h q (by simp)
        omega
    · rintro ⟨h1, h2⟩
      rw [List.pairwise_cons] at h1
      exact ⟨h1.1 q (by simp), h1.2, fun r hr => h2 r (List.mem_cons_of_mem _ hr)⟩
theorem chain_join {ps : List (Int × Int)} (h : ∀ p ∈ ps, p.1 < p.2) : chainB ps = decide (joinP ps = ps) := by
  rw [Bool.eq_iff_iff, chain_sep h, decide_eq_true_eq]
  constructor
  · exact joinP_sep
  · intro e
    rw [← e]; exact joinP_isSep h
/-! ### is_number, is_pair, is_spans -/

theorem row_spans {d : Nat} {s : SH} {ps : List (Int × Int)} : callF G (d + 1) i_Row_spans [rowV ps] s = .ok (.tup (ps.map P2)) s := by
  refine call_pure g_Row_spans rfl rfl (by simp) rfl (v := .tup (ps.map P2)) (s3 := []) ?_ (fzP (by simp) 16)
  simp [F_Row_spans, B_Row_spans, rowV]
theorem row_eq {d : Nat} {s : SH} {ps qs : List (Int × Int)} : callF G (d + 2) i_Row___eq__ [rowV ps, rowV qs] s = .ok (.bl (decide (ps = qs))) s := by
  refine call_pure g_Row___eq__ rfl rfl (by simp) rfl (v := .bl (decide (ps = qs))) (s3 := []) ?_ rfl
  have e := row_spans (d := d) (s := []) (ps := qs)
  simp [F_Row___eq__, B_Row___eq__, rowV] at e ⊢
  simp [e]

/-! ### the law's box and cells -/
theorem box_ok {d : Nat} {s : SH} {xs : List Int} {k : Nat} (hx : xs.length ≤ 1000) (hk : k < 1000) : ∃ c, U 0 c ∧ callF G (d + 1) i__law_box [.rol (xs.map PV.int), .int k] s = .ok (.ref s.length) (s ++ [c]) := by
  have e1 : mulOk 39373 (k : Int) = true := mulOk_l (by decide)
  have e2 : ∀ (i : Int) (p : Prop) [Decidable p], mulOk i (if p then 1 else 0) = true := fun i p _ => mulOk_r (by split <;> decide)
  have key : ∃ a b : Int, exs G (callF G d) B__law_box [some (.rol (xs.map PV.int)), some (.int k), none] [] = .ret (.ref 0) [urn a b 0] := by
    by_cases h : k < xs.length
    · refine ⟨?a, ?b, ?h⟩
      case h =>
        simp [B__law_box, h, ixN_nat h, e1, e2]
        rfl
    · refine ⟨?a2, ?b2, ?h⟩
      case h =>
        simp [B__law_box, h, e1, e2]
        rfl
  obtain ⟨a, b, h⟩ := key
  refine ⟨urn a b 0, ⟨a, b, 0, rfl, Int.le_refl _, Int.le_refl _⟩, ?_⟩
  exact call_new g__law_box rfl rfl (by simp [pureL_map (f := PV.int) (xs := xs) fun _ _ => rfl]) rfl h rfl rfl
def cellsB : Ss := match B__law_cells with | .cons _ (.cons (.for_ _ _ b) _) => b | _ => .nil
theorem cells_loop {d tp : Nat} {v : PV} {c0 tl : List Int} (hp0 : 0 < tp) (h3 : c0.length = tp ∨ tl = []) (ht : tl.length ≤ 1000) : ∃ (xs : List Int) (l3 l4 l5 : Option PV), xs.length = c0.length ∧
    forS (.items (tl.zipIdx.map fun p => PV.tup [.int (p.2 : Int), .int p.1])) (turnF G (callF G d) (.names [3, 4]) cellsB) (tl.length + 1) 0 [some v, some (.int (tp : Int)), some (.ref 0), none, none, none] [.lst (c0.map PV.int)] =
      .next [some v, some (.int (tp : Int)), some (.ref 0), l3, l4, l5] [.lst (xs.map PV.int)] := by
  obtain ⟨σ', s', h1, h2⟩ := for_items (g := fun (p : Int × Nat) => PV.tup [.int (p.2 : Int), .int p.1]) (body := turnF G (callF G d) (.names [3, 4]) cellsB) (σ := [some v, some (.int (tp : Int)), some (.ref 0), none, none, none]) (s := [.lst (c0.map PV.int)]) tl.zipIdx
    (fun done σ s => ∃ l3 l4 l5 xs, σ = [some v, some (.int (tp : Int)), some (.ref 0), l3, l4, l5] ∧ s = [.lst (List.map PV.int xs)] ∧ xs.length = c0.length) ⟨none, none, none, c0, rfl, rfl, rfl⟩ (fun done p rest σ s e ⟨l3, l4, l5, xs, hσ, hs, hx⟩ => by
      subst hσ; subst hs
      have hlen : tl.length = done.length + 1 + rest.length := by
        have := congrArg List.length e; simp at this; omega
      have h3 : c0.length = tp := by
        rcases h3 with h3 | h3
        · exact h3
        · rw [h3] at hlen; simp at hlen; omega
      have hp2 : p.2 = done.length := by
        have h1 : tl.zipIdx[done.length]? = some p := by rw [e]; simp
        rw [List.getElem?_zipIdx] at h1
        obtain ⟨a, _, rfl⟩ := Option.map_eq_some_iff.mp h1
        simp
      have hm : p.2 % tp < xs.length := by rw [hx, h3]; exact Nat.mod_lt _ hp0
      have hp1 : (0 : Int) < (tp : Int) := by omega
      have e1 : ((p.2 : Int) % tp) = ((p.2 % tp : Nat) : Int) := by rw [Int.natCast_emod]
      have e2 : mulOk p.1 ((p.2 : Int) + 2) = true := mulOk_r (by omega)
      refine ⟨_, [.lst ((xs.set (p.2 % tp) (xs[p.2 % tp] + p.1 * (p.2 + 2))).map PV.int)], .inl ?_, some (.int p.2), some (.int p.1), some (.int ((p.2 % tp : Nat) : Int)), xs.set (p.2 % tp) (xs[p.2 % tp] + p.1 * (p.2 + 2)), rfl, rfl, by simp [hx]⟩
      have e3 : ixN xs.length ((p.2 : Int) % tp) = some (p.2 % tp) := by rw [e1]; exact ixN_nat hm
      simp [cellsB, B__law_cells, e2, e3, hm, hp1, hp0, List.map_set])
  obtain ⟨l3, l4, l5, xs, rfl, rfl, hx⟩ := h2
  exact ⟨xs, l3, l4, l5, hx, by simpa using h1⟩
theorem cells_ok {d tp : Nat} {s : SH} {ns : List Int} (hp0 : 0 < tp) (hp3 : tp ≤ 3) (hl : ns.length ≤ 63) : ∃ xs : List Int, 0 < xs.length ∧ xs.length ≤ 3 ∧ callF G (d + 1) i__law_cells [.scr (ns.map PV.int), .int (tp : Int)] s = .ok (.rol (xs.map PV.int)) s := by
  have hp : ∀ l : List Int, PV.pureL (l.map PV.int) = true := fun l => pureL_map fun _ _ => rfl
  have hcut : ∀ (lo hi : Option Int), cutL (ns.map PV.int) lo hi = (cutL ns lo hi).map PV.int := fun lo hi => by simp [cutL, List.map_take, List.map_drop]
  have he : ∀ l : List Int, ((l.map PV.int).zipIdx.map fun p => PV.tup [.int (p.2 : Int), p.1]) = l.zipIdx.map fun p => PV.tup [.int (p.2 : Int), .int p.1] := fun l => by
    rw [List.zipIdx_map, List.map_map]; rfl
  have l1 : (cutL ns none (some (tp : Int))).length = min tp ns.length := by unfold cutL sIx; simp [show ¬ ((tp : Int) < 0) by omega]
  have l2 : (cutL ns (some (tp : Int)) (some 63)).length = ns.length - tp := by unfold cutL sIx; simp [show ¬ ((tp : Int) < 0) by omega]; omega
  by_cases hn : ns = []
  · subst hn
    refine ⟨[0], by simp, by simp, ?_⟩
    refine call_pure g__law_cells rfl rfl (by simp) rfl (v := .ref 1) (s3 := [.lst [], .lst [.int 0]]) ?_ (fz_ref rfl rfl rfl)
    simp [F__law_cells, B__law_cells, cutL, forS, Src.at]
  · have h0 : 0 < ns.length := List.length_pos_iff.mpr hn
    obtain ⟨xs, l3, l4, l5, hx, h⟩ := cells_loop (d := d) (v := .scr (ns.map PV.int)) (c0 := cutL ns none (some (tp : Int))) (tl := cutL ns (some (tp : Int)) (some 63)) hp0 (by
      by_cases h3 : tp ≤ ns.length
      · left; omega
      · right; exact List.eq_nil_of_length_eq_zero (by omega)) (by omega)
    refine ⟨xs, by omega, by omega, ?_⟩
    refine call_pure g__law_cells rfl rfl (by simp [hp]) rfl (v := .ref 0) (s3 := [.lst (xs.map PV.int)]) ?_ (fz_ref rfl rfl (hp xs))
    simp only [F__law_cells]
    have hne : (cutL ns none (some (tp : Int))) ≠ [] := List.ne_nil_of_length_pos (by omega)
    simp [cellsB, B__law_cells] at h
    simp [B__law_cells, hcut, he, hne, h]

/-! ### fill, drop and moves of spans -/
def fillStep (g : Int) (acc : List (Int × Int)) (p : Int × Int) : List (Int × Int) := match acc.getLast? with
  | some q => if p.1 - q.2 ≤ g then acc.dropLast ++ [(q.1, p.2)] else acc ++ [p]
  | none => acc ++ [p]
def fillP (g : Int) (ps : List (Int × Int)) : List (Int × Int) := ps.foldl (fillStep g) []
theorem fillStep_len (g : Int) (acc : List (Int × Int)) (p : Int × Int) : (fillStep g acc p).length ≤ acc.length + 1 := by
  unfold fillStep
  split
  · split
    · simp
    · simp
  · simp
theorem foldl_fill_len (g : Int) : ∀ (ps acc : List (Int × Int)), (ps.foldl (fillStep g) acc).length ≤ acc.length + ps.length
  | [], acc => by simp
  | p :: ps, acc => by
    have h1 := foldl_fill_len g ps (fillStep g acc p)
    have h2 := fillStep_len g acc p
    simp only [List.foldl_cons, List.length_cons]
    omega
theorem fillP_len (g : Int) (ps : List (Int × Int)) : (fillP g ps).length ≤ ps.length := by
  have := foldl_fill_len g ps []
  simpa [fillP] using this
def moveP (a b : Int) (ps : List (Int × Int)) : List (Int × Int) := ps.filterMap fun p => if p.1 + a < p.2 + b then some (p.1 + a, p.2 + b) else none
theorem moveP_len (a b : Int) (ps : List (Int × Int)) : (moveP a b ps).length ≤ ps.length := List.length_filterMap_le _ _
theorem filled_ok {d : Nat} {s : SH} {ps : List (Int × Int)} {g : Int} (hl : ps.length ≤ 1000000) : callF G (d + 1) i_filled [.tup (ps.map P2), .int g] s = .ok (.tup ((fillP g ps).map P2)) s := by
  obtain ⟨σ', s', h1, h2⟩ := for_items (g := P2) (body := turnF G (callF G d) (.names [3, 4]) (match B_filled with | .cons _ (.cons (.for_ _ _ b) _) => b | _ => .nil)) (σ := [some (.tup (ps.map P2)), some (.int g), some (.ref 0), none, none]) (s := [.lst []]) ps
    (fun done σ s => ∃ l1 l2, σ = [some (.tup (ps.map P2)), some (.int g), some (.ref 0), l1, l2] ∧ s = [.lst ((done.foldl (fillStep g) []).map P2)] ∧ (done.foldl (fillStep g) []).length ≤ done.length)
    ⟨none, none, rfl, rfl, Nat.le_refl _⟩ (fun done p rest σ s e ⟨l1, l2, hσ, hs, hn⟩ => by
      subst hσ; subst hs
      have hd : done.length ≤ 1000000 := by have := congrArg List.length e; simp at this; omega
      have hn2 : (fillStep g (done.foldl (fillStep g) []) p).length ≤ done.length + 1 := Nat.le_trans (fillStep_len _ _ _) (by omega)
      refine ⟨[some (.tup (ps.map P2)), some (.int g), some (.ref 0), some (.int p.1), some (.int p.2)], [.lst ((fillStep g (done.foldl (fillStep g) []) p).map P2)], .inl ?_, some (.int p.1), some (.int p.2), rfl, by simp, by simpa using hn2⟩
      generalize hacc : done.foldl (fillStep g) [] = acc at hn
      have hlt : acc.length < 16777216 := Nat.lt_of_le_of_lt hn (Nat.lt_of_le_of_lt hd (by decide))
      rcases List.eq_nil_or_concat acc with rfl | ⟨ys, q, rfl⟩
      · simp [B_filled, P2, fillStep]
      · have hlt' : ys.length + 1 < 16777216 := by simpa using hlt
        by_cases hq : p.1 - q.2 ≤ g
        · simp [B_filled, P2, fillStep, hq]
        · simp [B_filled, P2, fillStep, hq, hlt'])
  obtain ⟨l1, l2, rfl, rfl, _⟩ := h2
  refine call_pure g_filled rfl rfl (by simp) rfl (v := .tup ((fillP g ps).map P2)) (s3 := [.lst ((fillP g ps).map P2)]) ?_ (fzP (by simp) 16)
  simp only [F_filled]
  simp [B_filled] at h1 ⊢
  rw [h1]
  simp [fillP]
theorem moved_ok {d : Nat} {s : SH} {ps : List (Int × Int)} {a b : Int} (hl : ps.length ≤ 1000000) : callF G (d + 1) i_moved [.tup (ps.map P2), .int a, .int b] s = .ok (.tup ((moveP a b ps).map P2)) s := by
  have h1 := comp_filter (g := P2) (f := fun p : Int × Int => if p.1 + a < p.2 + b then some (P2 (p.1 + a, p.2 + b)) else none) (s := ([] : SH)) (xs := ps)
    (turn := turnC G (callF G d) (match B_moved with | .cons (.ret (.prim _ _ (.cons (.comp _ e _ _ _ _) _))) _ => e | _ => .c .non) (.names [4, 5]) (match B_moved with | .cons (.ret (.prim _ _ (.cons (.comp _ _ _ _ _ t) _))) _ => t | _ => .yes) [some (.tup (ps.map P2)), some (.int a), some (.int b), none, none, none])
    (fun p _ => by
      unfold turnC
      by_cases hq : p.1 + a < p.2 + b
      · simp [B_moved, P2, hq]
      · simp [B_moved, P2, hq]) (Nat.le_trans hl (by decide))
  refine call_pure g_moved rfl rfl (by simp) rfl (v := .tup ((moveP a b ps).map P2)) (s3 := []) ?_ (fzP (by simp) 16)
  have e : (ps.filterMap fun p : Int × Int => if p.1 + a < p.2 + b then some (P2 (p.1 + a, p.2 + b)) else none) = (moveP a b ps).map P2 := by
    unfold moveP
    rw [List.map_filterMap]
    congr 1
    funext p
    split <;> simp
  rw [e] at h1
  simp only [F_moved]
  simp [B_moved] at h1 ⊢
  rw [h1]
  simp

/-! ### steps -/
inductive Stp where
  | fill (n : Int)
  | drop (n : Int)
  | widen (a b : Int)
  | trim (a b : Int)
  | shift (n : Int)
def Stp.kind : Stp → Str
  | .fill _ => "fill"
  | .drop _ => "drop"
  | .widen _ _ => "widen"
  | .trim _ _ => "trim"
  | .shift _ => "shift"
def Stp.am : Stp → List Int
  | .fill n => [n]
  | .drop n => [n]
  | .widen a b => [a, b]
  | .trim a b => [a, b]
  | .shift n => [n]
def Stp.ok : Stp → Prop
  | .fill n => 0 ≤ n
  | .drop n => 0 ≤ n
  | .widen a b => 0 ≤ a ∧ 0 ≤ b
  | .trim a b => 0 ≤ a ∧ 0 ≤ b
  | .shift _ => True
def amV (t : Stp) : PV := .tup (t.am.map .int)
def stepV (t : Stp) : PV := .obj c_Step [.str t.kind, amV t]
def stgV (t : Stp) : PV := .tup [.str t.kind, amV t]
@[simp] theorem intL_pure (is : List Int) : PV.pureL (is.map PV.int) = true := pureL_map fun _ _ => rfl
@[simp] theorem intL_nr (is : List Int) : PV.nrL (is.map PV.int) = true := nrL_map fun _ _ => rfl
@[simp] theorem amV_pure (t : Stp) : (amV t).pureB = true := by simp [amV]
@[simp] theorem amV_nr (t : Stp) : (amV t).nrB = true := by simp [amV]
@[simp] theorem stepV_pure (t : Stp) : (stepV t).pureB = true := by simp [stepV]
@[simp] theorem stepV_nr (t : Stp) : (stepV t).nrB = true := by simp [stepV]
@[simp] theorem stgV_pure (t : Stp) : (stgV t).pureB = true := by simp [stgV]
@[simp] theorem stgV_nr (t : Stp) : (stgV t).nrB = true := by simp [stgV]
@[simp] theorem e_fill_fill (h : List Cell) : eqP h (.str "fill") (.str "fill") = some true := rfl
@[simp] theorem e_fill_drop (h : List Cell) : eqP h (.str "fill") (.str "drop") = some false := rfl
@[simp] theorem e_fill_widen (h : List Cell) : eqP h (.str "fill") (.str "widen") = some false := rfl
@[simp] theorem e_fill_trim (h : List Cell) : eqP h (.str "fill") (.str "trim") = some false := rfl
@[simp] theorem e_fill_shift (h : List Cell) : eqP h (.str "fill") (.str "shift") = some false := rfl
@[simp] theorem e_drop_fill (h : List Cell) : eqP h (.str "drop") (.str "fill") = some false := rfl
@[simp] theorem e_drop_drop (h : List Cell) : eqP h (.str "drop") (.str "drop") = some true := rfl
@[simp] theorem e_drop_widen (h : List Cell) : eqP h (.str "drop") (.str "widen") = some false := rfl
@[simp] theorem e_drop_trim (h : List Cell) : eqP h (.str "drop") (.str "trim") = some false := rfl
@[simp] theorem e_drop_shift (h : List Cell) : eqP h (.str "drop") (.str "shift") = some false := rfl
@[simp] theorem e_widen_fill (h : List Cell) : eqP h (.str "widen") (.str "fill") = some false := rfl
@[simp] theorem e_widen_drop (h : List Cell) : eqP h (.str "widen") (.str "drop") = some false := rfl
@[simp] theorem e_widen_widen (h : List Cell) : eqP h (.str "widen") (.str "widen") = some true := rfl
@[simp] theorem e_widen_trim (h : List Cell) : eqP h (.str "widen") (.str "trim") = some false := rfl
@[simp] theorem e_widen_shift (h : List Cell) : eqP h (.str "widen") (.str "shift") = some false := rfl
@[simp] theorem e_trim_fill (h : List Cell) : eqP h (.str "trim") (.str "fill") = some false := rfl
@[simp] theorem e_trim_drop (h : List Cell) : eqP h (.str "trim") (.str "drop") = some false := rfl
@[simp] theorem e_trim_widen (h : List Cell) : eqP h (.str "trim") (.str "widen") = some false := rfl
@[simp] theorem e_trim_trim (h : List Cell) : eqP h (.str "trim") (.str "trim") = some true := rfl
@[simp] theorem e_trim_shift (h : List Cell) : eqP h (.str "trim") (.str "shift") = some false := rfl
@[simp] theorem e_shift_fill (h : List Cell) : eqP h (.str "shift") (.str "fill") = some false := rfl
@[simp] theorem e_shift_drop (h : List Cell) : eqP h (.str "shift") (.str "drop") = some false := rfl
@[simp] theorem e_shift_widen (h : List Cell) : eqP h (.str "shift") (.str "widen") = some false := rfl
@[simp] theorem e_shift_trim (h : List Cell) : eqP h (.str "shift") (.str "trim") = some false := rfl
@[simp] theorem e_shift_shift (h : List Cell) : eqP h (.str "shift") (.str "shift") = some true := rfl
@[simp] theorem k_fill_drop : ((("fill" : Str)) == ("drop" : Str)) = false := by decide +kernel
@[simp] theorem k_fill_widen : ((("fill" : Str)) == ("widen" : Str)) = false := by decide +kernel
@[simp] theorem k_fill_trim : ((("fill" : Str)) == ("trim" : Str)) = false := by decide +kernel
@[simp] theorem k_fill_shift : ((("fill" : Str)) == ("shift" : Str)) = false := by decide +kernel
@[simp] theorem k_drop_fill : ((("drop" : Str)) == ("fill" : Str)) = false := by decide +kernel
@[simp] theorem k_drop_widen : ((("drop" : Str)) == ("widen" : Str)) = false := by decide +kernel
@[simp] theorem k_drop_trim : ((("drop" : Str)) == ("trim" : Str)) = false := by decide +kernel
@[simp] theorem k_drop_shift : ((("drop" : Str)) == ("shift" : Str)) = false := by decide +kernel
@[simp] theorem k_widen_fill : ((("widen" : Str)) == ("fill" : Str)) = false := by decide +kernel
@[simp] theorem k_widen_drop : ((("widen" : Str)) == ("drop" : Str)) = false := by decide +kernel
@[simp] theorem k_widen_trim : ((("widen" : Str)) == ("trim" : Str)) = false := by decide +kernel
@[simp] theorem k_widen_shift : ((("widen" : Str)) == ("shift" : Str)) = false := by decide +kernel
@[simp] theorem k_trim_fill : ((("trim" : Str)) == ("fill" : Str)) = false := by decide +kernel
@[simp] theorem k_trim_drop : ((("trim" : Str)) == ("drop" : Str)) = false := by decide +kernel
@[simp] theorem k_trim_widen : ((("trim" : Str)) == ("widen" : Str)) = false := by decide +kernel
@[simp] theorem k_trim_shift : ((("trim" : Str)) == ("shift" : Str)) = false := by decide +kernel
@[simp] theorem k_shift_fill : ((("shift" : Str)) == ("fill" : Str)) = false := by decide +kernel
@[simp] theorem k_shift_drop : ((("shift" : Str)) == ("drop" : Str)) = false := by decide +kernel
@[simp] theorem k_shift_widen : ((("shift" : Str)) == ("widen" : Str)) = false := by decide +kernel
@[simp] theorem k_shift_trim : ((("shift" : Str)) == ("trim" : Str)) = false := by decide +kernel
theorem tupled_int {d : Nat} {s : SH} {i : Int} : callF G (d + 1) i_tupled [.int i] s = .ok (.int i) s := by
  refine call_pure g_tupled rfl rfl rfl rfl (v := .int i) (s3 := []) ?_ rfl
  simp [F_tupled, B_tupled, isTys]
theorem tupled_ints {d : Nat} {s : SH} {is : List Int} (hl : is.length ≤ 1000000) : callF G (d + 2) i_tupled [.tup (is.map .int)] s = .ok (.tup (is.map .int)) s := by
  have h1 := comp_map (g := PV.int) (f := PV.int) (s := ([] : SH)) (xs := is)
    (turn := turnC G (callF G (d + 1)) (.call i_tupled (.cons (.v 2) .nil) .nil []) (.name 2) .yes [some (.tup (is.map .int)), none, none])
    (fun p _ => by
      unfold turnC
      simp [tupled_int]) (Nat.le_trans hl (by decide))
  refine call_pure g_tupled rfl rfl (by simp) rfl (v := .tup (is.map .int)) (s3 := []) ?_ (fzP (by simp) 16)
  simp only [F_tupled]
  simp [B_tupled, isTys, h1]
theorem is_number_int {d : Nat} {s : SH} {i : Int} : callF G (d + 1) i_is_number [.int i] s = .ok (.bl true) s := by
  refine call_pure g_is_number rfl rfl rfl rfl (v := .bl true) (s3 := []) ?_ rfl
  simp [F_is_number, B_is_number, isTys]
theorem is_good_ok {d : Nat} {s : SH} {t : Stp} (ht : t.ok) : callF G (d + 2) i_is_good [.str t.kind, amV t] s = .ok (.bl true) s := by
  have h1 := fun (is : List Int) (hl : is.length ≤ 1000000) => comp_map (g := PV.int) (f := fun _ => PV.bl true) (s := ([] : SH)) (xs := is)
    (turn := turnC G (callF G (d + 1)) (.call i_is_number (.cons (.v 3) .nil) .nil []) (.name 3) .yes [some (.str t.kind), some (.tup (is.map .int)), none, none])
    (fun p _ => by
      unfold turnC
      simp [is_number_int]) (Nat.le_trans hl (by decide))
  refine call_pure g_is_good rfl rfl (by simp) rfl (v := .bl true) (s3 := []) ?_ rfl
  simp only [F_is_good]
  cases t with
  | fill n => have := h1 [n] (by simp); simp [Stp.ok] at ht; simp [Stp.kind, Stp.am] at this; simp [B_is_good, Stp.kind, amV, Stp.am, this, List.lookup, getBools, getInts, ht]
  | drop n => have := h1 [n] (by simp); simp [Stp.ok] at ht; simp [Stp.kind, Stp.am] at this; simp [B_is_good, Stp.kind, amV, Stp.am, this, List.lookup, getBools, getInts, ht]
  | widen a b => have := h1 [a, b] (by simp); simp [Stp.ok] at ht; simp [Stp.kind, Stp.am] at this; simp [B_is_good, Stp.kind, amV, Stp.am, this, List.lookup, getBools, getInts]; omega
  | trim a b => have := h1 [a, b] (by simp); simp [Stp.ok] at ht; simp [Stp.kind, Stp.am] at this; simp [B_is_good, Stp.kind, amV, Stp.am, this, List.lookup, getBools, getInts]; omega
  | shift n => have := h1 [n] (by simp); simp [Stp.kind, Stp.am] at this; simp [B_is_good, Stp.kind, amV, Stp.am, this, List.lookup, getBools, getInts]
theorem step_init {d : Nat} {t : Stp} (ht : t.ok) : callF G (d + 3) i_Step___init__ [.ref 0, .str t.kind, amV t] [.ins c_Step []] = .ok .non [.ins c_Step [(a_own_kind, .str t.kind), (a_own_amounts, amV t)]] := by
  have hl : t.am.length ≤ 1000000 := by cases t <;> simp [Stp.am]
  have h1 : ∀ s, callF G (d + 2) i_tupled [amV t] s = .ok (amV t) s := fun s => tupled_ints hl
  have h2 : ∀ s, callF G (d + 2) i_is_good [.str t.kind, amV t] s = .ok (.bl true) s := fun s => is_good_ok ht
  refine call_muN (n := 0) (us := [.str t.kind, amV t]) (c := .ins c_Step []) g_Step___init__ rfl rfl rfl rfl (by simp) rfl (σ := [some (.ref 0), some (.str t.kind), some (amV t), some (amV t)]) (s3 := [.ins c_Step [(a_own_kind, .str t.kind), (a_own_amounts, amV t)]]) ?_ rfl (by simp [Cell.pureB, Cell.vals])
  simp only [F_Step___init__]
  have hk : ¬ a_own_kind = a_own_amounts := by decide
  simp [B_Step___init__, h1, h2, setAttr, putA, hk]
theorem mk_step {d : Nat} {s : SH} {t : Stp} (ht : t.ok) : mkV G (callF G (d + 3)) c_Step [.str t.kind, amV t] [] s = .ok (stepV t) s :=
  mk_pure (full := [.ref 0, .str t.kind, amV t]) (C := ⟨i_Step___init__, G.cls[c_Step].meths, G.cls[c_Step].props, [a_own_kind, a_own_amounts]⟩) rfl (by simp) rfl (step_init ht) rfl (by simp)
theorem step_kind {d : Nat} {s : SH} {t : Stp} : callF G (d + 1) i_Step_kind [stepV t] s = .ok (.str t.kind) s := by
  refine call_pure g_Step_kind rfl rfl (by simp) rfl (v := .str t.kind) (s3 := []) ?_ rfl
  simp [F_Step_kind, B_Step_kind, stepV]
theorem step_amounts {d : Nat} {s : SH} {t : Stp} : callF G (d + 1) i_Step_amounts [stepV t] s = .ok (amV t) s := by
  refine call_pure g_Step_amounts rfl rfl (by simp) rfl (v := amV t) (s3 := []) ?_ (fzP (by simp) 16)
  simp [F_Step_amounts, B_Step_amounts, stepV]

/-! ### what one step makes -/
def Stp.edges : Stp → Int × Int
  | .shift n => (n, n)
  | .widen a b => (-a, b)
  | .trim a b => (a, -b)
  | _ => (0, 0)
def Stp.raw (ps : List (Int × Int)) : Stp → List (Int × Int)
  | .fill n => fillP n ps
  | .drop n => ps.filter fun p => decide (n < p.2 - p.1)
  | .shift n => moveP n n ps
  | .widen a b => moveP (-a) b ps
  | .trim a b => moveP a (-b) ps
theorem raw_len (t : Stp) (ps : List (Int × Int)) : (t.raw ps).length ≤ ps.length := by
  cases t with
  | fill n => exact fillP_len n ps
  | drop n => exact List.length_filter_le _ _
  | widen a b => exact moveP_len _ _ ps
  | trim a b => exact moveP_len _ _ ps
  | shift n => exact moveP_len _ _ ps
theorem edges_ok {d : Nat} {s : SH} {t : Stp} : callF G (d + 2) i_edges_of [stepV t] s = .ok (P2 t.edges) s := by
  have h1 := fun s => step_kind (d := d) (s := s) (t := t)
  have h2 := fun s => step_amounts (d := d) (s := s) (t := t)
  refine call_pure g_edges_of rfl rfl (by simp) rfl (v := P2 t.edges) (s3 := []) ?_ (fzP (by simp) 16)
  simp only [F_edges_of]
  cases t with
  | fill n => simp [Stp.kind, Stp.am, amV, stepV] at h1 h2; simp [B_edges_of, stepV, Stp.kind, amV, Stp.am, h1, h2, P2, Stp.edges]
  | drop n => simp [Stp.kind, Stp.am, amV, stepV] at h1 h2; simp [B_edges_of, stepV, Stp.kind, amV, Stp.am, h1, h2, P2, Stp.edges]
  | widen a b => simp [Stp.kind, Stp.am, amV, stepV] at h1 h2; simp [B_edges_of, stepV, Stp.kind, amV, Stp.am, h1, h2, P2, Stp.edges]
  | trim a b => simp [Stp.kind, Stp.am, amV, stepV] at h1 h2; simp [B_edges_of, stepV, Stp.kind, amV, Stp.am, h1, h2, P2, Stp.edges]
  | shift n => simp [Stp.kind, Stp.am, amV, stepV] at h1 h2; simp [B_edges_of, stepV, Stp.kind, amV, Stp.am, h1, h2, P2, Stp.edges]
theorem step_call {d : Nat} {s : SH} {t : Stp} {ps : List (Int × Int)} (hl : ps.length ≤ 1000000) (ho : ∀ p ∈ t.raw ps, p.1 < p.2) : callF G (d + 3) i_Step___call__ [stepV t, rowV ps] s = .ok (rowV (joinP (t.raw ps))) s := by
  have h1 := fun s => row_spans (d := d + 1) (s := s) (ps := ps)
  have h2 := fun s => edges_ok (d := d) (s := s) (t := t)
  have h3 := fun (s : SH) (v : PV) (hv : v = PV.tup ((t.raw ps).map P2) ∨ v = PV.rol ((t.raw ps).map P2)) => mk_row (d := d) (s := s) hv (Nat.le_trans (raw_len t ps) hl) ho
  refine call_pure g_Step___call__ rfl rfl (by simp) rfl (v := rowV (joinP (t.raw ps))) (s3 := []) ?_ (fzP (by simp) 16)
  simp only [F_Step___call__]
  cases t with
  | fill n =>
    have h4 := fun s => filled_ok (d := d + 1) (s := s) (g := n) hl
    have h5 := fun s => h3 s _ (.inl rfl)
    simp [Stp.kind, Stp.am, amV, stepV, rowV, Stp.raw] at h1 h2 h3 h5
    simp [B_Step___call__, stepV, rowV, Stp.kind, amV, Stp.am, h1, h4, h5, Stp.raw]
  | drop n =>
    have h5 := fun s => h3 s _ (.inr rfl)
    have h4 := comp_filter (g := P2) (f := fun p : Int × Int => if n < p.2 - p.1 then some (P2 p) else none) (s := ([] : SH)) (xs := ps)
      (turn := turnC G (callF G (d + 2)) (.v 5) (.name 5) (.c (.cmp .gt (.bin true .sub (.prim true .ix (.cons (.v 5) (.cons (.c (.int (1))) .nil))) (.prim true .ix (.cons (.v 5) (.cons (.c (.int (0))) .nil)))) (.prim true .ix (.cons (.attr (.v 0) a_own_amounts) (.cons (.c (.int (0))) .nil))))) [some (stepV (.drop n)), some (rowV ps), none, none, none, none])
      (fun p _ => by
        unfold turnC
        by_cases hq : n < p.2 - p.1
        · simp [P2, hq, stepV, amV, Stp.am]
        · simp [P2, hq, stepV, amV, Stp.am]) (Nat.le_trans hl (by decide))
    have e : (ps.filterMap fun p : Int × Int => if n < p.2 - p.1 then some (P2 p) else none) = ((Stp.drop n).raw ps).map P2 := by
      show _ = (ps.filter fun p => decide (n < p.2 - p.1)).map P2
      clear h1 h2 h3 h4 h5 ho hl
      induction ps with
      | nil => rfl
      | cons p ps ih => by_cases hq : n < p.2 - p.1 <;> simp [hq, ih]
    rw [e] at h4
    simp [Stp.kind, Stp.am, amV, stepV, rowV] at h1 h2 h3 h5 h4
    simp [B_Step___call__, stepV, rowV, Stp.kind, amV, Stp.am, h1, h4, h5]
  | widen a b =>
    have h4 := fun s => moved_ok (d := d + 1) (s := s) (a := -a) (b := b) hl
    have h5 := fun s => h3 s _ (.inl rfl)
    simp [Stp.kind, Stp.am, amV, stepV, rowV, Stp.raw, Stp.edges, P2] at h1 h2 h3 h5 h4
    simp [B_Step___call__, stepV, rowV, Stp.kind, amV, Stp.am, h1, h2, h4, h5, Stp.raw, P2]
  | trim a b =>
    have h4 := fun s => moved_ok (d := d + 1) (s := s) (a := a) (b := -b) hl
    have h5 := fun s => h3 s _ (.inl rfl)
    simp [Stp.kind, Stp.am, amV, stepV, rowV, Stp.raw, Stp.edges, P2] at h1 h2 h3 h5 h4
    simp [B_Step___call__, stepV, rowV, Stp.kind, amV, Stp.am, h1, h2, h4, h5, Stp.raw, P2]
  | shift n =>
    have h4 := fun s => moved_ok (d := d + 1) (s := s) (a := n) (b := n) hl
    have h5 := fun s => h3 s _ (.inl rfl)
    simp [Stp.kind, Stp.am, amV, stepV, rowV, Stp.raw, Stp.edges, P2] at h1 h2 h3 h5 h4
    simp [B_Step___call__, stepV, rowV, Stp.kind, amV, Stp.am, h1, h2, h4, h5, Stp.raw, P2]

/-! ### steps keep rows apart; pipelines -/
theorem moveP_lt {a b : Int} {ps : List (Int × Int)} : ∀ p ∈ moveP a b ps, p.1 < p.2 := by
  intro p hp
  unfold moveP at hp
  obtain ⟨q, _, h⟩ := List.mem_filterMap.mp hp
  split at h
  · cases h; assumption
  · cases h
theorem fill_sep (g : Int) : ∀ (rest acc : List (Int × Int)), Sep (acc ++ rest) → Sep (rest.foldl (fillStep g) acc)
  | [], acc, h => by simpa using h
  | p :: rest, acc, h => by
    simp only [List.foldl_cons]
    refine fill_sep g rest _ ?_
    unfold fillStep
    rcases List.eq_nil_or_concat acc with rfl | ⟨ys, q, rfl⟩
    · simpa using h
    · simp only [List.concat_eq_append, List.getLast?_append, List.getLast?_singleton, Option.some_or, List.dropLast_concat]
      split
      · obtain ⟨h1, h2⟩ := h
        simp only [List.concat_eq_append, List.append_assoc, List.singleton_append, List.pairwise_append, List.pairwise_cons, List.mem_cons, List.cons_append, List.nil_append] at h1
        obtain ⟨a1, ⟨a2, a3, a4⟩, a5⟩ := h1
        have hq := h2 q (by simp)
        have hp := h2 p (by simp)
        have hqp := a2 p (.inl rfl)
        refine ⟨?_, fun x hx => ?_⟩
        · simp only [List.append_assoc, List.singleton_append, List.pairwise_append, List.pairwise_cons, List.mem_cons, List.cons_append, List.nil_append]
          refine ⟨a1, ⟨fun x hx => a3 x hx, a4⟩, fun x hx y hy => ?_⟩
          rcases hy with rfl | hy
          · exact a5 x hx q (.inl rfl)
          · exact a5 x hx y (.inr (.inr hy))
        · simp only [List.append_assoc, List.mem_append, List.mem_singleton] at hx
          rcases hx with hx | rfl | hx
          · exact h2 x (by simp [hx])
          · show q.1 < p.2
            omega
          · exact h2 x (by simp [hx])
      · simpa using h
theorem fillP_sep {g : Int} {ps : List (Int × Int)} (h : Sep ps) : Sep (fillP g ps) := fill_sep g ps [] (by simpa using h)
theorem filter_sep {f : Int × Int → Bool} {ps : List (Int × Int)} (h : Sep ps) : Sep (ps.filter f) := ⟨h.1.filter f, fun p hp => h.2 p (List.mem_filter.mp hp).1⟩
theorem moveP_sep {a b : Int} {ps : List (Int × Int)} (hb : b ≤ a) (h : Sep ps) : Sep (moveP a b ps) := by
  refine ⟨?_, moveP_lt⟩
  unfold moveP
  refine List.Pairwise.filterMap _ (fun p q hpq x hx y hy => ?_) h.1
  split at hx
  · split at hy
    · cases hx; cases hy
      show p.2 + b < q.1 + a
      omega
    · cases hy
  · cases hx
theorem raw_lt {t : Stp} {ps : List (Int × Int)} (h : Sep ps) : ∀ p ∈ t.raw ps, p.1 < p.2 := by
  cases t with
  | fill n => exact (fillP_sep h).2
  | drop n => exact (filter_sep h).2
  | widen a b => exact moveP_lt
  | trim a b => exact moveP_lt
  | shift n => exact moveP_lt
def doneP (ps : List (Int × Int)) (t : Stp) : List (Int × Int) := joinP (t.raw ps)
theorem joinP_len (ps : List (Int × Int)) : (joinP ps).length ≤ ps.length := by
  have : ∀ (qs acc : List (Int × Int)), (qs.foldl joinStep acc).length ≤ acc.length + qs.length := by
    intro qs
    induction qs with
    | nil => intro acc; simp
    | cons q qs ih =>
      intro acc
      have h1 := ih (joinStep acc q)
      have h2 := joinStep_len acc q
      simp only [List.foldl_cons, List.length_cons]
      omega
  have := this (sortP ps) []
  simpa [joinP] using this
theorem doneP_len (t : Stp) (ps : List (Int × Int)) : (doneP ps t).length ≤ ps.length := Nat.le_trans (joinP_len _) (raw_len t ps)
theorem doneP_sep {t : Stp} {ps : List (Int × Int)} (h : Sep ps) : Sep (doneP ps t) := joinP_isSep (raw_lt h)
@[simp] theorem mf_step (x y : PV) (s : SH) : methFind G a___call__ (.obj c_Step [x, y]) s = some i_Step___call__ := rfl
@[simp] theorem stepL_pure (ts : List Stp) : PV.pureL (ts.map stepV) = true := pureL_map fun t _ => stepV_pure t
@[simp] theorem stepL_nr (ts : List Stp) : PV.nrL (ts.map stepV) = true := nrL_map fun t _ => stepV_nr t
def isT (r : R PV) : Bool := match r with | .ok (.bl true) [] => true | _ => false
theorem isT_ok {r : R PV} (h : isT r = true) : r = .ok (.bl true) [] := by
  unfold isT at h
  split at h
  · rfl
  · cases h

/-! ### spans that are apart -/
/-! ### is_number, is_pair, is_spans -/
def combP (f l g : Int) (n : Nat) : List (Int × Int) := (List.range n).map fun (k : Nat) => (f + (k : Int) * (l + g), f + (k : Int) * (l + g) + l)
theorem combP_sep {f l g : Int} (hl : 0 < l) (hg : 0 < g) (n : Nat) : Sep (combP f l g n) := by
  refine ⟨?_, fun p hp => ?_⟩
  · unfold combP
    rw [List.pairwise_map]
    refine List.Pairwise.imp (R := (· < ·)) (fun {a b} hab => ?_) List.pairwise_lt_range
    have h1 : (a : Int) + 1 ≤ b := by omega
    have h2 : ((a : Int) + 1) * (l + g) ≤ b * (l + g) := Int.mul_le_mul_of_nonneg_right h1 (by omega)
    have h3 : ((a : Int) + 1) * (l + g) = a * (l + g) + (l + g) := by rw [Int.add_mul, Int.one_mul]
    show f + a * (l + g) + l < f + b * (l + g)
    omega
  · obtain ⟨k, _, rfl⟩ := List.mem_map.mp hp
    show f + (k : Int) * (l + g) < f + (k : Int) * (l + g) + l
    omega
/-! ### values compared by a Bool -/
mutual
def beqV : PV → PV → Bool
  | .non, .non => true
  | .bl a, .bl b => a == b
  | .int a, .int b => decide (a = b)
  | .str a, .str b => decide (a = b)
  | .tup a, .tup b => beqL a b
  | .rol a, .rol b => beqL a b
  | _, _ => false
def beqL : List PV → List PV → Bool
  | [], [] => true
  | x :: xs, y :: ys => beqV x y && beqL xs ys
  | _, _ => false
end
mutual
theorem beqV_eq : ∀ a b : PV, beqV a b = true → a = b
  | .non, b, h => by cases b <;> simp_all [beqV]
  | .bl a, b, h => by cases b <;> simp_all [beqV]
  | .int a, b, h => by cases b <;> simp_all [beqV]
  | .str a, b, h => by cases b <;> simp_all [beqV]
  | .tup a, b, h => by
    cases b <;> simp [beqV] at h
    rw [beqL_eq a _ h]
  | .rol a, b, h => by
    cases b <;> simp [beqV] at h
    rw [beqL_eq a _ h]
  | .scr a, b, h => by cases b <;> simp [beqV] at h
  | .obj c a, b, h => by cases b <;> simp [beqV] at h
  | .ref n, b, h => by cases b <;> simp [beqV] at h
theorem beqL_eq : ∀ a b : List PV, beqL a b = true → a = b
  | [], b, h => by cases b <;> simp_all [beqL]
  | x :: xs, b, h => by
    cases b with
    | nil => simp [beqL] at h
    | cons y ys =>
      simp [beqL] at h
      rw [beqV_eq x y h.1, beqL_eq xs ys h.2]
end
def isV (r : R PV) (v : PV) : Bool := match r with | .ok w [] => beqV w v | _ => false
theorem isV_ok {r : R PV} {v : PV} (h : isV r v = true) : r = .ok v [] := by
  unfold isV at h
  split at h
  · rw [beqV_eq _ _ h]
  · cases h
/-! ### a body in two parts -/
def preOf : Nat → Ss → Ss
  | 0, _ => .nil
  | _, .nil => .nil
  | n + 1, .cons i is => .cons i (preOf n is)
def dropOf : Nat → Ss → Ss
  | 0, x => x
  | _, .nil => .nil
  | n + 1, .cons _ is => dropOf n is
theorem at_assoc (x : Fl) (f g : Sl → SH → Fl) : (x.andThen f).andThen g = x.andThen fun σ s => (f σ s).andThen g := by cases x <;> rfl
theorem exs_split {G : Gs} {call : Nat → List PV → SH → R PV} : ∀ (n : Nat) (b : Ss) (σ : Sl) (s : SH), exs G call b σ s = (exs G call (preOf n b) σ s).andThen fun σ s => exs G call (dropOf n b) σ s
  | 0, b, σ, s => by
    have e1 : preOf 0 b = .nil := by cases b <;> rfl
    have e2 : dropOf 0 b = b := by cases b <;> rfl
    rw [e1, e2, exs_nil]; rfl
  | n + 1, .nil, σ, s => by
    have e1 : preOf (n + 1) .nil = .nil := rfl
    have e2 : dropOf (n + 1) .nil = .nil := rfl
    rw [e1, e2, exs_nil]; simp
  | n + 1, .cons i is, σ, s => by
    have e1 : preOf (n + 1) (.cons i is) = .cons i (preOf n is) := rfl
    have e2 : dropOf (n + 1) (.cons i is) = dropOf n is := rfl
    rw [e1, e2, exs_cons, exs_cons, at_assoc]
    congr 1
    funext σ s
    exact exs_split n is σ s

/-! ### what stands by hand in k05 -/
def preChk : Fl → Bool
  | .next [_, some (.ref k), some (.rol gs), _, _, _, _, _, _, _] s => (match s[k]? with
    | some (.lst xs) => beqL xs gs && gs.all (dat 3) && decide (gs.length ≤ 100000) && PV.pureL gs
    | _ => false)
  | _ => false
theorem pre_chk {x : Fl} (h : preChk x = true) : ∃ a0 k gs a3 a4 a5 a6 a7 a8 a9 s, x = .next [a0, some (.ref k), some (.rol gs), a3, a4, a5, a6, a7, a8, a9] s ∧ s[k]? = some (.lst gs) ∧ gs.all (dat 3) = true ∧ gs.length ≤ 100000 ∧ PV.pureL gs = true := by
  unfold preChk at h
  split at h
  · next a0 k gs a3 a4 a5 a6 a7 a8 a9 s =>
    split at h
    · next xs hx =>
      simp only [Bool.and_eq_true, decide_eq_true_eq] at h
      refine ⟨a0, k, gs, a3, a4, a5, a6, a7, a8, a9, s, rfl, ?_, h.1.1.2, h.1.2, h.2⟩
      rw [hx, beqL_eq _ _ h.1.1.1]
    · cases h
  · cases h
theorem pre_ok : ∃ a0 k gs a3 a4 a5 a6 a7 a8 a9 s, exs G (callF G 27) (preOf 20 B__law_by_hand_right) [none, none, none, none, none, none, none, none, none, none] [] = .next [a0, some (.ref k), some (.rol gs), a3, a4, a5, a6, a7, a8, a9] s ∧ s[k]? = some (.lst gs) ∧ gs.all (dat 3) = true ∧ gs.length ≤ 100000 ∧ PV.pureL gs = true :=
  pre_chk (by decide +kernel)
def wide : List (Int × Int) := (List.range 300).map fun (k : Nat) => (3 * (k : Int), 3 * (k : Int) + 1)
theorem wide_sep : Sep wide := (chain_sep (by decide +kernel)).mp (by decide +kernel)
theorem wide_len : wide.length = 300 := by decide +kernel
theorem wide_comp {d : Nat} {s : SH} {σ : Sl} (h : σ.length = 10) : compS (.items (upTo 0 300)) (turnC G (callF G d) (.prim true .tup (.cons (.bin true .mul (.c (.int (3))) (.v 9)) (.cons (.bin true .add (.bin true .mul (.c (.int (3))) (.v 9)) (.c (.int (1)))) .nil))) (.name 9) .yes σ) (300 + 1) 0 [] s = .ok (wide.map P2) s := by
  have := comp_map (g := fun (k : Nat) => PV.int (0 + (k : Int))) (f := fun k => P2 (3 * (k : Int), 3 * (k : Int) + 1)) (s := s) (xs := List.range 300) (turn := turnC G (callF G d) (.prim true .tup (.cons (.bin true .mul (.c (.int (3))) (.v 9)) (.cons (.bin true .add (.bin true .mul (.c (.int (3))) (.v 9)) (.c (.int (1)))) .nil))) (.name 9) .yes σ) (fun k _ => by
    unfold turnC
    have e0 : 0 + (k : Int) = k := by omega
    have e1 : (σ.set 9 (some (.int (k : Int))))[9]? = some (some (.int k)) := by rw [List.getElem?_set_self (by omega)]
    have hm : mulOk 3 (k : Int) = true := mulOk_l (by decide)
    simp [e0, e1, hm, P2]) (by simp)
  have hup : upTo 0 300 = (List.range 300).map fun (k : Nat) => PV.int (0 + (k : Int)) := rfl
  rw [hup]
  simp only [List.length_range] at this
  rw [this]
  unfold wide
  rw [List.map_map]
  rfl
theorem st_call {t : Stp} (h : t.ok) {k : Str} {a : List PV} (e1 : k = t.kind) (e2 : a = t.am.map PV.int) (s : SH) : mkV G (callF G 27) c_Step [.str k, .tup a] [] s = .ok (stepV t) s := by
  subst e1; subst e2
  exact mk_step (d := 24) (s := s) h
theorem st_on (t : Stp) {rs : List (Int × Int)} (e : doneP wide t = rs) (s : SH) : callF G 27 i_Step___call__ [stepV t, rowV wide] s = .ok (rowV rs) s := by
  rw [← e]
  exact step_call (d := 24) (s := s) (by rw [wide_len]; omega) (raw_lt wide_sep)
theorem len_wide (s : SH) : callF G 27 i_Row___len__ [rowV wide] s = .ok (.int 300) s := call_any g_Row___len__ rfl rfl rfl (isV_ok (by decide +kernel))
theorem text_none (s : SH) : callF G 27 i_Row_text [rowV []] s = .ok (.str "-") s := call_any g_Row_text rfl rfl rfl (isV_ok (by decide +kernel))
theorem get_a (s : SH) : callF G 27 i_Row___getitem__ [rowV (doneP wide (.widen 1 0)), .int 299] s = .ok (.tup [.int 896, .int 898]) s := call_any g_Row___getitem__ rfl rfl (by simp) (isV_ok (by decide +kernel))
theorem get_b (s : SH) : callF G 27 i_Row___getitem__ [rowV (doneP wide (.shift 5)), .int 299] s = .ok (.tup [.int 902, .int 903]) s := call_any g_Row___getitem__ rfl rfl (by simp) (isV_ok (by decide +kernel))
theorem own_len (call : Nat → List PV → SH → R PV) (ps : List (Int × Int)) (s : SH) (x : R PV) : ownP G call .len [rowV ps] s x = (call i_Row___len__ [rowV ps] s).bind lenB := rfl
theorem own_get (call : Nat → List PV → SH → R PV) (ps : List (Int × Int)) (y : PV) (s : SH) (x : R PV) : ownP G call .ix [rowV ps, y] s x = call i_Row___getitem__ [rowV ps, y] s := rfl
theorem add_ref (call : Nat → List PV → SH → R PV) {s : SH} {k : Nat} {gs ys : List PV} (hk : s[k]? = some (.lst gs)) (hl : gs.length + ys.length ≤ 16777216) : binV G call false .add (.ref k) (.rol ys) s = .ok (.ref s.length) (s ++ [.lst (gs ++ ys)]) := by
  have e2 : insOf G s (.ref k) = none := by simp only [insOf, hk]
  have e3 : insOf G s (.rol ys) = none := rfl
  unfold binV
  simp [e2, e3, hk, binP, ownL, lstOf]
  rw [if_pos (show gs.length + ys.length ≤ sizeL from hl)]
  rfl
def tlB : Ss := dropOf 20 B__law_by_hand_right
theorem tail_ok {call : Nat → List PV → SH → R PV} (hw : ∀ (σ : Sl) s, σ.length = 10 → compS (.items (upTo 0 300)) (turnC G call (.prim true .tup (.cons (.bin true .mul (.c (.int (3))) (.v 9)) (.cons (.bin true .add (.bin true .mul (.c (.int (3))) (.v 9)) (.c (.int (1)))) .nil))) (.name 9) .yes σ) (300 + 1) 0 [] s = .ok (wide.map P2) s)
    (hr : ∀ s, mkV G call c_Row [.rol (wide.map P2)] [] s = .ok (rowV wide) s)
    (m1 : ∀ s, mkV G call c_Step [.str "fill", .tup [.int 2]] [] s = .ok (stepV (.fill 2)) s) (m2 : ∀ s, mkV G call c_Step [.str "fill", .tup [.int 1]] [] s = .ok (stepV (.fill 1)) s) (m3 : ∀ s, mkV G call c_Step [.str "drop", .tup [.int 1]] [] s = .ok (stepV (.drop 1)) s)
    (m4 : ∀ s, mkV G call c_Step [.str "widen", .tup [.int 1, .int 0]] [] s = .ok (stepV (.widen 1 0)) s) (m5 : ∀ s, mkV G call c_Step [.str "shift", .tup [.int 5]] [] s = .ok (stepV (.shift 5)) s)
    {ra rb : List (Int × Int)}
    (c1 : ∀ s, call i_Step___call__ [stepV (.fill 2), rowV wide] s = .ok (rowV [(0, 898)]) s) (c2 : ∀ s, call i_Step___call__ [stepV (.fill 1), rowV wide] s = .ok (rowV wide) s) (c3 : ∀ s, call i_Step___call__ [stepV (.drop 1), rowV wide] s = .ok (rowV []) s)
    (c4 : ∀ s, call i_Step___call__ [stepV (.widen 1 0), rowV wide] s = .ok (rowV ra) s) (c5 : ∀ s, call i_Step___call__ [stepV (.shift 5), rowV wide] s = .ok (rowV rb) s)
    (sp : ∀ s, call i_Row_spans [rowV [(0, 898)]] s = .ok (.tup [.tup [.int 0, .int 898]]) s) (ln : ∀ s, call i_Row___len__ [rowV wide] s = .ok (.int 300) s) (tx : ∀ s, call i_Row_text [rowV []] s = .ok (.str "-") s)
    (ga : ∀ s, call i_Row___getitem__ [rowV ra, .int 299] s = .ok (.tup [.int 896, .int 898]) s) (gb : ∀ s, call i_Row___getitem__ [rowV rb, .int 299] s = .ok (.tup [.int 902, .int 903]) s)
    {a0 a3 a4 a5 a6 a7 a8 a9 : Option PV} {k : Nat} {gs : List PV} {s : SH} (hk : s[k]? = some (.lst gs)) (hl : gs.length ≤ 100000) (hp : PV.pureL gs = true)
    (sm : ∀ (X : List PV) (s : SH) (n : Nat), s[n]? = some (.lst X) → PV.pureL X = true → X.all (dat 3) = true → X.length ≤ 1000000 → call i__law_same [.ref n, .rol X] s = .ok (.bl true) s) (hd : gs.all (dat 3) = true) :
    ∃ s', exs G call tlB [a0, some (.ref k), some (.rol gs), a3, a4, a5, a6, a7, a8, a9] s = .ret (.bl true) s' := by
  have hm : ∀ (t : Stp) s, methFind G a___call__ (stepV t) s = some i_Step___call__ := fun _ _ => rfl
  have at1 : ∀ ps s, attrV G call a_spans (rowV ps) s = call i_Row_spans [rowV ps] s := fun _ _ => rfl
  have at2 : ∀ ps s, attrV G call a_text (rowV ps) s = call i_Row_text [rowV ps] s := fun _ _ => rfl
  have ol := own_len call
  have og := own_get call
  have z1 : gs.length + 3 ≤ 16777216 := by omega
  have z2 : gs.length + 3 + 2 ≤ 16777216 := by omega
  have z3 : gs.length + 5 ≤ 16777216 := by omega
  suffices h : exs G call tlB [a0, some (.ref k), some (.rol gs), a3, a4, a5, a6, a7, a8, a9] s = .ret (.bl true) (s ++ [.lst (gs ++ [.tup [.tup [.int 0, .int 898]], .int 300, .str "-"])] ++ [.lst (gs ++ [.tup [.tup [.int 0, .int 898]], .int 300, .str "-", .tup [.int 896, .int 898], .tup [.int 902, .int 903]])]) from ⟨_, h⟩
  have et : tlB = dropOf 20 B__law_by_hand_right := rfl
  simp only [B__law_by_hand_right, dropOf] at et
  rw [et, exs_cons]
  conv => lhs; arg 1; simp [hw, hr]
  simp only [at_next]
  rw [exs_cons]
  have ad1 := add_ref call (ys := [.tup [.tup [.int 0, .int 898]], .int 300, .str "-"]) hk z1
  conv => lhs; arg 1; simp [m1, m2, m3, hm, c1, c2, c3, at1, at2, sp, tx, ol, ln, lenB, ad1]
  simp only [at_next]
  rw [exs_cons]
  have ad2 := add_ref call (s := s ++ [.lst (gs ++ [.tup [.tup [.int 0, .int 898]], .int 300, .str "-"])]) (k := s.length) (gs := gs ++ [.tup [.tup [.int 0, .int 898]], .int 300, .str "-"]) (ys := [.tup [.int 896, .int 898], .tup [.int 902, .int 903]]) (by simp) (by simp; omega)
  simp at ad2
  conv => lhs; arg 1; simp [m4, m5, hm, c4, c5, og, ga, gb, ad2]
  simp only [at_next]
  have sm2 := sm (gs ++ [.tup [.tup [.int 0, .int 898]], .int 300, .str "-", .tup [.int 896, .int 898], .tup [.int 902, .int 903]]) (s ++ [.lst (gs ++ [.tup [.tup [.int 0, .int 898]], .int 300, .str "-"])] ++ [.lst (gs ++ [.tup [.tup [.int 0, .int 898]], .int 300, .str "-", .tup [.int 896, .int 898], .tup [.int 902, .int 903]])]) (s.length + 1) (by simp) (by rw [pureL_app, hp]; rfl) (by rw [List.all_append, hd]; decide +kernel) (by simp; omega)
  simp at sm2
  simp [sm2, z3]
theorem hand_ok {s : SH} : callF G 28 i__law_by_hand_right [] s = .ok (.bl true) s := by
  obtain ⟨a0, k, gs, a3, a4, a5, a6, a7, a8, a9, s1, e1, hk, hd, hl, hp⟩ := pre_ok
  have d1 : doneP wide (.fill 2) = [(0, 898)] := by decide +kernel
  have d2 : doneP wide (.fill 1) = wide := by decide +kernel
  have d3 : doneP wide (.drop 1) = [] := by decide +kernel
  have mr := fun s => mk_row (d := 25) (s := s) (v := .rol (wide.map P2)) (.inr rfl) (by rw [wide_len]; omega) wide_sep.2
  rw [joinP_sep wide_sep] at mr
  have sp := fun s => row_spans (d := 26) (s := s) (ps := [(0, 898)])
  obtain ⟨s2, e2⟩ := tail_ok (call := callF G 27) (fun σ s h => wide_comp h) mr
    (fun s => st_call (t := .fill 2) (by show (0 : Int) ≤ _; decide) rfl rfl s) (fun s => st_call (t := .fill 1) (by show (0 : Int) ≤ _; decide) rfl rfl s) (fun s => st_call (t := .drop 1) (by show (0 : Int) ≤ _; decide) rfl rfl s)
    (fun s => st_call (t := .widen 1 0) ⟨by decide, by decide⟩ rfl rfl s) (fun s => st_call (t := .shift 5) trivial rfl rfl s)
    (fun s => st_on (.fill 2) d1 s) (fun s => st_on (.fill 1) d2 s) (fun s => st_on (.drop 1) d3 s) (fun s => st_on (.widen 1 0) rfl s) (fun s => st_on (.shift 5) rfl s)
    sp len_wide text_none get_a get_b (a0 := a0) (a3 := a3) (a4 := a4) (a5 := a5) (a6 := a6) (a7 := a7) (a8 := a8) (a9 := a9) hk hl hp
    (fun X s n hn hX hd hl => by
      have h7 := fun s => same_refl 4 22 (.rol X) s (by show (decide (X.length ≤ 1000000) && X.all (dat 3)) = true; rw [hd]; simpa using hl)
      exact call_frz (us := [.ref n, .rol X]) (vs := [.rol X, .rol X]) g__law_same rfl (by rw [List.mapM_cons, List.mapM_cons, fz_ref hn rfl hX, fzP (by simpa [PV.pureB] using hX) 16]; rfl) rfl rfl rfl h7 (by simp [PV.pureL, PV.pureB, hX])) hd
  refine call_pure g__law_by_hand_right rfl rfl rfl rfl (v := .bl true) (s3 := s2) ?_ rfl
  have es := exs_split (G := G) (call := callF G 27) 20 B__law_by_hand_right [none, none, none, none, none, none, none, none, none, none] []
  rw [e1, at_next] at es
  exact es.trans e2

/-! ### what steps make of rows, by the heights alone -/
def mvP (a b : Int) (ps : List (Int × Int)) : List (Int × Int) := ps.map fun p => (p.1 + a, p.2 + b)
def dropP (n : Int) (ps : List (Int × Int)) : List (Int × Int) := ps.filter fun p => decide (n < p.2 - p.1)
def Wide (hi deep : Int) (ps : List (Int × Int)) : Prop := ps.Pairwise (fun p q => p.2 + hi < q.1) ∧ ∀ p ∈ ps, deep < p.2 - p.1
theorem Wide.sep {hi deep : Int} {ps : List (Int × Int)} (h : Wide hi deep ps) (h1 : 0 ≤ hi) (h2 : 0 ≤ deep) : Sep ps := ⟨h.1.imp fun {a b} q => by omega, fun p hp => by have := h.2 p hp; omega⟩
theorem Sep.wide {ps : List (Int × Int)} (h : Sep ps) : Wide 0 0 ps := ⟨h.1.imp fun {a b} q => by omega, fun p hp => by have := h.2 p hp; omega⟩
theorem Wide.mono {hi deep hi' deep' : Int} {ps : List (Int × Int)} (h : Wide hi deep ps) (h1 : hi' ≤ hi) (h2 : deep' ≤ deep) : Wide hi' deep' ps := ⟨h.1.imp fun {a b} q => by omega, fun p hp => by have := h.2 p hp; omega⟩
def fillG (g : Int) (p : Int × Int) : List (Int × Int) → List (Int × Int)
  | [] => [p]
  | q :: r => if q.1 - p.2 ≤ g then fillG g (p.1, q.2) r else p :: fillG g q r
theorem fillG_cons (g : Int) (p q : Int × Int) (r : List (Int × Int)) : fillG g p (q :: r) = if q.1 - p.2 ≤ g then fillG g (p.1, q.2) r else p :: fillG g q r := rfl
theorem fillG_fold (g : Int) : ∀ (r acc : List (Int × Int)) (p : Int × Int), r.foldl (fillStep g) (acc ++ [p]) = acc ++ fillG g p r
  | [], acc, p => rfl
  | q :: r, acc, p => by
    rw [List.foldl_cons]
    unfold fillG
    have e : fillStep g (acc ++ [p]) q = if q.1 - p.2 ≤ g then acc ++ [(p.1, q.2)] else (acc ++ [p]) ++ [q] := by
      unfold fillStep
      simp
    rw [e]
    split
    · rw [fillG_fold g r acc]
    · rw [fillG_fold g r (acc ++ [p])]; simp
theorem fillP_cons (g : Int) (p : Int × Int) (r : List (Int × Int)) : fillP g (p :: r) = fillG g p r := by
  have := fillG_fold g r [] p
  simpa [fillP, fillStep] using this
@[simp] theorem fillP_nil (g : Int) : fillP g [] = [] := rfl
def setF (a : Int) : List (Int × Int) → List (Int × Int)
  | [] => []
  | p :: r => (a, p.2) :: r
theorem fillG_set (g a : Int) : ∀ (r : List (Int × Int)) (p : Int × Int), fillG g (a, p.2) r = setF a (fillG g p r)
  | [], p => rfl
  | q :: r, p => by
    rw [fillG_cons, fillG_cons]
    by_cases h : q.1 - p.2 ≤ g
    · rw [if_pos (by exact h), if_pos h]
      exact fillG_set g a r (p.1, q.2)
    · rw [if_neg (by exact h), if_neg h]
      rfl
theorem fillG_ne (g : Int) : ∀ (r : List (Int × Int)) (p : Int × Int), ∃ b tl, fillG g p r = (p.1, b) :: tl
  | [], p => ⟨p.2, [], rfl⟩
  | q :: r, p => by
    unfold fillG
    split
    · exact fillG_ne g r (p.1, q.2)
    · exact ⟨p.2, fillG g q r, rfl⟩
theorem fillG_fill {k k' : Int} (h : k ≤ k') : ∀ (r : List (Int × Int)) (p : Int × Int), fillP k' (fillG k p r) = fillG k' p r
  | [], p => rfl
  | q :: r, p => by
    rw [fillG_cons, fillG_cons]
    by_cases h1 : q.1 - p.2 ≤ k
    · rw [if_pos h1, fillG_fill h r (p.1, q.2), if_pos (by omega)]
    · rw [if_neg h1]
      have ih := fillG_fill h r q
      obtain ⟨b, tl, e⟩ := fillG_ne k r q
      rw [fillP_cons]
      rw [e] at ih ⊢
      rw [fillP_cons] at ih
      rw [fillG_cons]
      by_cases h2 : q.1 - p.2 ≤ k'
      · rw [if_pos h2, if_pos (by exact h2)]
        have s1 := fillG_set k' p.1 tl (q.1, b)
        have s2 := fillG_set k' p.1 r q
        rw [s2, ← ih]
        exact s1
      · rw [if_neg h2, if_neg (by exact h2), ih]
theorem fill_fill {k k' : Int} (h : k ≤ k') : ∀ ps : List (Int × Int), fillP k' (fillP k ps) = fillP k' ps
  | [] => rfl
  | p :: r => by rw [fillP_cons, fillG_fill h, fillP_cons]
theorem drop_drop {k k' : Int} (h : k ≤ k') (ps : List (Int × Int)) : dropP k' (dropP k ps) = dropP k' ps := by
  unfold dropP
  rw [List.filter_filter]
  congr 1
  funext p
  by_cases h1 : k' < p.2 - p.1
  · simp [h1, show k < p.2 - p.1 by omega]
  · simp [h1]
theorem fillG_no {hi deep k : Int} (hk : k ≤ hi) : ∀ (r : List (Int × Int)) (p : Int × Int), Wide hi deep (p :: r) → fillG k p r = p :: r
  | [], p, _ => rfl
  | q :: r, p, h => by
    obtain ⟨h1, h2⟩ := h
    rw [List.pairwise_cons] at h1
    have := h1.1 q (List.mem_cons_self ..)
    unfold fillG
    rw [if_neg (by omega), fillG_no (deep := deep) hk r q ⟨h1.2, fun x hx => h2 x (List.mem_cons_of_mem _ hx)⟩]
theorem fill_no {hi deep k : Int} (hk : k ≤ hi) {ps : List (Int × Int)} (h : Wide hi deep ps) : fillP k ps = ps := by
  cases ps with
  | nil => rfl
  | cons p r => rw [fillP_cons]; exact fillG_no hk r p h
theorem drop_no {hi deep k : Int} (hk : k ≤ deep) {ps : List (Int × Int)} (h : Wide hi deep ps) : dropP k ps = ps := by
  unfold dropP
  rw [List.filter_eq_self]
  intro p hp
  have := h.2 p hp
  simp; omega
theorem fillG_wide {hi deep k : Int} (h1 : 0 ≤ hi) (h2 : 0 ≤ deep) : ∀ (r : List (Int × Int)) (p : Int × Int), Wide hi deep (p :: r) → Wide (max hi k) deep (fillG k p r) ∧ ∀ x ∈ fillG k p r, p.1 ≤ x.1
  | [], p, h => ⟨⟨by simp [fillG], by simpa [fillG] using h.2⟩, by simp [fillG]⟩
  | q :: r, p, h => by
    obtain ⟨w1, w2⟩ := h
    rw [List.pairwise_cons] at w1
    have pq := w1.1 q (List.mem_cons_self ..)
    have lp := w2 p (by simp)
    have lq := w2 q (by simp)
    have wq := w1.2
    rw [List.pairwise_cons] at wq
    unfold fillG
    split
    · refine fillG_wide h1 h2 r (p.1, q.2) ⟨?_, fun x hx => ?_⟩
      · rw [List.pairwise_cons]
        exact ⟨wq.1, wq.2⟩
      · rcases List.mem_cons.mp hx with rfl | hx
        · simp only; omega
        · exact w2 x (by simp [hx])
    · rename_i hg
      obtain ⟨i1, i2⟩ := fillG_wide (k := k) h1 h2 r q ⟨w1.2, fun x hx => w2 x (List.mem_cons_of_mem _ hx)⟩
      refine ⟨⟨?_, fun x hx => ?_⟩, fun x hx => ?_⟩
      · rw [List.pairwise_cons]
        refine ⟨fun x hx => ?_, i1.1⟩
        have := i2 x hx
        omega
      · rcases List.mem_cons.mp hx with rfl | hx
        · exact lp
        · exact i1.2 x hx
      · rcases List.mem_cons.mp hx with rfl | hx
        · exact Int.le_refl _
        · have := i2 x hx
          omega
theorem fill_wide {hi deep k : Int} (h1 : 0 ≤ hi) (h2 : 0 ≤ deep) {ps : List (Int × Int)} (h : Wide hi deep ps) : Wide (max hi k) deep (fillP k ps) := by
  cases ps with
  | nil => exact ⟨by simp, by simp⟩
  | cons p r => rw [fillP_cons]; exact (fillG_wide h1 h2 r p h).1
theorem drop_wide {hi deep k : Int} {ps : List (Int × Int)} (h : Wide hi deep ps) : Wide hi (max deep k) (dropP k ps) := by
  unfold dropP
  refine ⟨h.1.filter _, fun p hp => ?_⟩
  obtain ⟨a, b⟩ := List.mem_filter.mp hp
  have := h.2 p a
  simp at b
  omega
/-! moved spans -/
theorem mv_fillG (a b g : Int) : ∀ (r : List (Int × Int)) (p : Int × Int), fillG g (p.1 + a, p.2 + b) (mvP a b r) = mvP a b (fillG (g + (b - a)) p r)
  | [], p => rfl
  | q :: r, p => by
    show fillG g (p.1 + a, p.2 + b) ((q.1 + a, q.2 + b) :: mvP a b r) = _
    unfold fillG
    by_cases h : q.1 - p.2 ≤ g + (b - a)
    · rw [if_pos (by simp only; omega), if_pos h]
      exact mv_fillG a b g r (p.1, q.2)
    · rw [if_neg (by simp only; omega), if_neg h, mv_fillG a b g r q]
      rfl
theorem mv_fill (a b g : Int) (ps : List (Int × Int)) : fillP g (mvP a b ps) = mvP a b (fillP (g + (b - a)) ps) := by
  cases ps with
  | nil => rfl
  | cons p r =>
    show fillP g ((p.1 + a, p.2 + b) :: mvP a b r) = _
    rw [fillP_cons, fillP_cons, mv_fillG]
theorem mv_drop (a b n : Int) (ps : List (Int × Int)) : dropP n (mvP a b ps) = mvP a b (dropP (n - (b - a)) ps) := by
  unfold dropP mvP
  rw [List.filter_map]
  congr 1
  congr 1
  funext p
  simp only [Function.comp, decide_eq_decide]
  omega
theorem mv_sep {hi deep a b : Int} {ps : List (Int × Int)} (h : Wide hi deep ps) (h1 : b - a ≤ hi) (h2 : -deep ≤ b - a) : Sep (mvP a b ps) := by
  refine ⟨?_, fun p hp => ?_⟩
  · unfold mvP
    rw [List.pairwise_map]
    exact h.1.imp fun {x y} q => by simp only; omega
  · obtain ⟨q, hq, rfl⟩ := List.mem_map.mp hp
    have := h.2 q hq
    simp only; omega
theorem mv_move {x y a b : Int} (ps : List (Int × Int)) : moveP x y (mvP a b ps) = mvP (a + x) (b + y) (dropP (-(b + y - (a + x))) ps) := by
  unfold moveP mvP dropP
  rw [List.filterMap_map]
  induction ps with
  | nil => rfl
  | cons p ps ih =>
    rw [List.filterMap_cons, List.filter_cons]
    by_cases h : -(b + y - (a + x)) < p.2 - p.1
    · simp only [Function.comp]
      rw [if_pos (by omega), if_pos (by simpa using h)]
      simp only [List.map_cons]
      rw [← ih]
      congr 2 <;> omega
    · simp only [Function.comp]
      rw [if_neg (by omega), if_neg (by simpa using h)]
      exact ih
theorem sortP_up : ∀ {ps : List (Int × Int)}, ps.Pairwise (fun p q => p.1 < q.1) → sortP ps = ps
  | [], _ => rfl
  | p :: ps, h => by
    rw [List.pairwise_cons] at h
    unfold sortP
    rw [sortP_up h.2]
    exact insP_head h.1
theorem join_fill (a b : Int) : ∀ (r acc : List (Int × Int)) (p : Int × Int), Sep (p :: r) → (mvP a b r).foldl joinStep (mvP a b (acc ++ [p])) = mvP a b (acc ++ fillG (b - a) p r)
  | [], acc, p, _ => rfl
  | q :: r, acc, p, h => by
    obtain ⟨w1, w2⟩ := h
    rw [List.pairwise_cons] at w1
    have pq := w1.1 q (List.mem_cons_self ..)
    have lp := w2 p (by simp)
    have lq := w2 q (by simp)
    have wq := w1.2
    rw [List.pairwise_cons] at wq
    show (mvP a b r).foldl joinStep (joinStep (mvP a b (acc ++ [p])) (q.1 + a, q.2 + b)) = _
    have e : joinStep (mvP a b (acc ++ [p])) (q.1 + a, q.2 + b) = if q.1 - p.2 ≤ b - a then mvP a b (acc ++ [(p.1, q.2)]) else mvP a b ((acc ++ [p]) ++ [q]) := by
      unfold joinStep mvP
      simp only [List.map_append, List.map_cons, List.map_nil, List.getLast?_append, List.getLast?_singleton, Option.some_or, List.dropLast_concat]
      by_cases h : q.1 - p.2 ≤ b - a
      · rw [if_pos h, if_pos (by omega)]
        rw [show max (p.2 + b) (q.2 + b) = q.2 + b by omega]
      · rw [if_neg h, if_neg (by omega)]
    rw [e]
    unfold fillG
    by_cases h : q.1 - p.2 ≤ b - a
    · rw [if_pos h, if_pos h]
      refine join_fill a b r acc (p.1, q.2) ⟨?_, fun x hx => ?_⟩
      · rw [List.pairwise_cons]; exact ⟨wq.1, wq.2⟩
      · rcases List.mem_cons.mp hx with rfl | hx
        · simp only; omega
        · exact w2 x (by simp [hx])
    · rw [if_neg h, if_neg h, join_fill a b r (acc ++ [p]) q ⟨w1.2, fun x hx => w2 x (List.mem_cons_of_mem _ hx)⟩]
      simp
theorem join_mv (a b : Int) {ps : List (Int × Int)} (h : Sep ps) : joinP (mvP a b ps) = mvP a b (fillP (b - a) ps) := by
  unfold joinP
  have hu : (mvP a b ps).Pairwise (fun p q => p.1 < q.1) := by
    unfold mvP
    rw [List.pairwise_map]
    refine List.Pairwise.imp_of_mem (fun {x y} hx hy q => ?_) h.1
    have := h.2 x hx
    simp only; omega
  rw [sortP_up hu]
  cases ps with
  | nil => rfl
  | cons p r =>
    have := join_fill a b r [] p h
    rw [fillP_cons]
    exact this
def visP (ps : List (Int × Int)) (x : Int) : List (Int × Int) := dropP (-x) (fillP x ps)
theorem vis_wide {hi deep x : Int} (h1 : 0 ≤ hi) (h2 : 0 ≤ deep) {ps : List (Int × Int)} (h : Wide hi deep ps) : Wide (max hi x) (max deep (-x)) (visP ps x) := drop_wide (fill_wide h1 h2 h)
theorem vis_no {hi deep x : Int} (h1 : x ≤ hi) (h2 : -x ≤ deep) {ps : List (Int × Int)} (h : Wide hi deep ps) : visP ps x = ps := by
  unfold visP
  rw [fill_no h1 h, drop_no h2 h]
theorem vis_up {hi deep x : Int} (h1 : 0 ≤ hi) (h2 : 0 ≤ deep) (hx : -x ≤ deep) {ps : List (Int × Int)} (h : Wide hi deep ps) : visP ps x = fillP x ps := by
  unfold visP
  exact drop_no hx (fill_wide (k := x) h1 h2 h)
theorem vis_dn {hi deep x : Int} (hx : x ≤ hi) {ps : List (Int × Int)} (h : Wide hi deep ps) : visP ps x = dropP (-x) ps := by
  unfold visP
  rw [fill_no hx h]
def Stp.vis (h : Int) (t : Stp) : List Int := match t with
  | .fill n => [h + n, h]
  | .drop n => [h - n, h]
  | .widen a b => [h + (a + b)]
  | .trim a b => [h - (a + b)]
  | .shift _ => []
theorem done_vis {hi deep a b : Int} {ps : List (Int × Int)} {t : Stp} (ht : t.ok) (w : Wide hi deep ps) (h1 : 0 ≤ hi) (h2 : 0 ≤ deep) (h3 : b - a ≤ hi) (h4 : -(b - a) ≤ deep) :
    doneP (mvP a b ps) t = mvP (a + t.edges.1) (b + t.edges.2) ((t.vis (b - a)).foldl visP ps) := by
  have S := w.sep h1 h2
  have Sm := mv_sep (a := a) (b := b) w h3 (by omega)
  unfold doneP
  cases t with
  | fill n =>
    have ht : 0 ≤ n := ht
    show joinP (fillP n (mvP a b ps)) = mvP (a + 0) (b + 0) (visP (visP ps (b - a + n)) (b - a))
    rw [joinP_sep (fillP_sep Sm), vis_no (hi := max hi (b - a + n)) (deep := max deep (-(b - a + n))) (by omega) (by omega) (vis_wide h1 h2 w), vis_up h1 h2 (by omega) w, mv_fill, Int.add_zero, Int.add_zero, Int.add_comm n]
  | drop n =>
    have ht : 0 ≤ n := ht
    show joinP (dropP n (mvP a b ps)) = mvP (a + 0) (b + 0) (visP (visP ps (b - a - n)) (b - a))
    rw [joinP_sep (show Sep (dropP n (mvP a b ps)) from filter_sep Sm), vis_no (hi := max hi (b - a - n)) (deep := max deep (-(b - a - n))) (by omega) (by omega) (vis_wide h1 h2 w), vis_dn (by omega) w, mv_drop, Int.add_zero, Int.add_zero]
    congr 2; omega
  | widen x y =>
    obtain ⟨hx, hy⟩ : 0 ≤ x ∧ 0 ≤ y := ht
    show joinP (moveP (-x) y (mvP a b ps)) = mvP (a + -x) (b + y) (visP ps (b - a + (x + y)))
    rw [mv_move, drop_no (k := -(b + y - (a + -x))) (by omega) w, join_mv _ _ S, vis_up h1 h2 (by omega) w]
    congr 2; omega
  | trim x y =>
    obtain ⟨hx, hy⟩ : 0 ≤ x ∧ 0 ≤ y := ht
    show joinP (moveP x (-y) (mvP a b ps)) = mvP (a + x) (b + -y) (visP ps (b - a - (x + y)))
    have e : -(b + -y - (a + x)) = -(b - a - (x + y)) := by omega
    rw [mv_move, vis_dn (by omega) w, e]
    have w2 := drop_wide (k := -(b - a - (x + y))) w
    exact joinP_sep (mv_sep w2 (by omega) (by omega))
  | shift n =>
    show joinP (moveP n n (mvP a b ps)) = mvP (a + n) (b + n) ps
    rw [mv_move, drop_no (k := -(b + n - (a + n))) (by omega) w]
    exact joinP_sep (mv_sep w (by omega) (by omega))

/-! ### the times that spans cover -/
def covB (rs : List (Int × Int)) (x : Int) : Bool := rs.any fun r => decide (r.1 ≤ x) && decide (x < r.2)
theorem covB_iff {rs : List (Int × Int)} {x : Int} : covB rs x = true ↔ ∃ r ∈ rs, r.1 ≤ x ∧ x < r.2 := by simp [covB]
theorem covB_cons (r : Int × Int) (rs : List (Int × Int)) (x : Int) : covB (r :: rs) x = (decide (r.1 ≤ x) && decide (x < r.2) || covB rs x) := rfl
theorem covB_app (as bs : List (Int × Int)) (x : Int) : covB (as ++ bs) x = (covB as x || covB bs x) := by simp [covB]
theorem covB_none {rs : List (Int × Int)} {x : Int} (h : ∀ r ∈ rs, x < r.1 ∨ r.2 ≤ x) : covB rs x = false := by
  cases hc : covB rs x with
  | false => rfl
  | true =>
    obtain ⟨r, hr, h1, h2⟩ := covB_iff.mp hc
    have := h r hr
    omega
theorem cov_joinStep {acc : List (Int × Int)} {p : Int × Int} {x : Int} (h : ∀ q ∈ acc, q.1 ≤ p.1) : covB (joinStep acc p) x = (covB acc x || (decide (p.1 ≤ x) && decide (x < p.2))) := by
  rcases List.eq_nil_or_concat acc with rfl | ⟨ys, q, rfl⟩
  · simp [joinStep, covB]
  · rw [List.concat_eq_append] at h ⊢
    have hq := h q (by simp)
    simp only [joinStep, List.getLast?_concat]
    by_cases hp : p.1 ≤ q.2
    · rw [if_pos hp]
      simp only [List.dropLast_concat, covB_app, covB_cons]
      have e : (decide (q.1 ≤ x) && decide (x < max p.2 q.2) || covB [] x) = ((decide (q.1 ≤ x) && decide (x < q.2) || covB [] x) || (decide (p.1 ≤ x) && decide (x < p.2))) := by
        rw [Bool.eq_iff_iff]
        simp [covB]
        omega
      first
        | rw [e]
        | (rw [Int.max_comm] at e; rw [e])
      simp [covB, Bool.or_assoc]
    · rw [if_neg hp, covB_app, covB_cons]
      simp [covB]
theorem cov_joinF {x : Int} : ∀ (rest acc : List (Int × Int)), Ord rest → (∀ q ∈ acc, ∀ p ∈ rest, q.1 ≤ p.1) → covB (rest.foldl joinStep acc) x = (covB acc x || covB rest x)
  | [], acc, _, _ => by simp [covB]
  | p :: rest, acc, ho, h => by
    have ho2 := List.pairwise_cons.mp ho
    rw [List.foldl_cons, cov_joinF rest _ ho2.2 (fun q hq r hr => by
      have h1 : ∀ q ∈ acc, q.1 ≤ p.1 := fun q hq => h q hq p (List.mem_cons_self ..)
      have h2 := ho2.1 r hr
      rcases List.eq_nil_or_concat acc with rfl | ⟨ys, z, rfl⟩
      · simp [joinStep] at hq; subst hq; exact h2
      · rw [List.concat_eq_append] at hq h
        simp only [joinStep, List.getLast?_concat] at hq
        split at hq
        · simp only [List.dropLast_concat, List.mem_append, List.mem_singleton] at hq
          rcases hq with hq | rfl
          · exact h q (by simp [hq]) r (List.mem_cons_of_mem _ hr)
          · exact h z (by simp) r (List.mem_cons_of_mem _ hr)
        · simp only [List.mem_append, List.mem_singleton] at hq
          rcases hq with hq | rfl
          · exact h q (by simpa using hq) r (List.mem_cons_of_mem _ hr)
          · exact h2), cov_joinStep fun q hq => h q hq p (List.mem_cons_self ..), covB_cons, Bool.or_assoc]
theorem cov_sort {ps : List (Int × Int)} {x : Int} : covB (sortP ps) x = covB ps x := by
  rw [Bool.eq_iff_iff, covB_iff, covB_iff]
  simp only [mem_sortP]
theorem cov_join (ps : List (Int × Int)) (x : Int) : covB (joinP ps) x = covB ps x := by
  unfold joinP
  rw [cov_joinF _ _ (sortP_ord ps) (by simp), cov_sort]
  simp [covB]
theorem cov_move (a b : Int) (ps : List (Int × Int)) (x : Int) : covB (moveP a b ps) x = ps.any fun p => decide (p.1 + a ≤ x) && decide (x < p.2 + b) := by
  rw [Bool.eq_iff_iff, covB_iff]
  simp only [moveP, List.mem_filterMap, List.any_eq_true, Bool.and_eq_true, decide_eq_true_eq]
  constructor
  · rintro ⟨r, ⟨p, hp, e⟩, h1, h2⟩
    split at e
    · cases e; exact ⟨p, hp, h1, h2⟩
    · cases e
  · rintro ⟨p, hp, h1, h2⟩
    exact ⟨(p.1 + a, p.2 + b), ⟨p, hp, by rw [if_pos (by omega)]⟩, h1, h2⟩
def gapIn (g x : Int) (p : Int × Int) : List (Int × Int) → Bool
  | [] => false
  | q :: r => (decide (p.2 ≤ x) && decide (x < q.1) && decide (q.1 - p.2 ≤ g)) || gapIn g x q r
theorem gapIn_snd (g x a : Int) (p : Int × Int) : ∀ r : List (Int × Int), gapIn g x (a, p.2) r = gapIn g x p r
  | [] => rfl
  | q :: r => rfl
theorem cov_fillG (g x : Int) : ∀ (r : List (Int × Int)) (p : Int × Int), Sep (p :: r) → covB (fillG g p r) x = (covB (p :: r) x || gapIn g x p r)
  | [], p, _ => by simp [fillG, gapIn]
  | q :: r, p, h => by
    have h1 := List.pairwise_cons.mp h.1
    have hp : p.1 < p.2 := h.2 p (by simp)
    have hq : q.1 < q.2 := h.2 q (by simp)
    have hpq := h1.1 q (by simp)
    have hr : Sep (q :: r) := ⟨h1.2, fun z hz => h.2 z (List.mem_cons_of_mem _ hz)⟩
    have hr2 : Sep ((p.1, q.2) :: r) := by
      have h2 := List.pairwise_cons.mp h1.2
      refine ⟨List.pairwise_cons.mpr ⟨h2.1, h2.2⟩, fun z hz => ?_⟩
      rcases List.mem_cons.mp hz with rfl | hz
      · show p.1 < q.2
        omega
      · exact h.2 z (by simp [hz])
    rw [fillG_cons]
    by_cases hg : q.1 - p.2 ≤ g
    · rw [if_pos hg, cov_fillG g x r _ hr2, gapIn_snd g x p.1 q r]
      simp only [covB_cons, gapIn]
      generalize covB r x = c
      generalize gapIn g x q r = d
      rw [Bool.eq_iff_iff]
      cases c <;> cases d <;> simp [hg] <;> omega
    · rw [if_neg hg, covB_cons, cov_fillG g x r q hr]
      simp only [covB_cons, gapIn]
      generalize covB r x = c
      generalize gapIn g x q r = d
      rw [Bool.eq_iff_iff]
      cases c <;> cases d <;> simp [hg]
theorem part_at {x : Int} : ∀ {ps : List (Int × Int)}, Sep ps → covB ps x = false → ∃ l r, ps = l ++ r ∧ (∀ p ∈ l, p.2 ≤ x) ∧ ∀ p ∈ r, x < p.1
  | [], _, _ => ⟨[], [], rfl, by simp, by simp⟩
  | p :: ps, h, hc => by
    have h1 := List.pairwise_cons.mp h.1
    rw [covB_cons, Bool.or_eq_false_iff] at hc
    have hp : x < p.1 ∨ p.2 ≤ x := by have := hc.1; simp at this; omega
    have hps : Sep ps := ⟨h1.2, fun z hz => h.2 z (List.mem_cons_of_mem _ hz)⟩
    have hp12 := h.2 p (by simp)
    rcases hp with hp | hp
    · refine ⟨[], p :: ps, rfl, by simp, fun z hz => ?_⟩
      rcases List.mem_cons.mp hz with rfl | hz
      · exact hp
      · have := h1.1 z hz; omega
    · obtain ⟨l, r, e, h3, h4⟩ := part_at hps hc.2
      refine ⟨p :: l, r, by rw [e]; rfl, fun z hz => ?_, h4⟩
      rcases List.mem_cons.mp hz with rfl | hz
      · exact hp
      · exact h3 z hz
theorem gapIn_none {g x : Int} : ∀ {r : List (Int × Int)} {p : Int × Int}, (∀ q ∈ r, q.2 ≤ x) → p.1 < p.2 → (∀ q ∈ r, q.1 < q.2) → gapIn g x p r = false
  | [], p, _, _, _ => rfl
  | q :: r, p, h, hp, hr => by
    have h1 := h q (by simp)
    have h2 := hr q (by simp)
    simp only [gapIn]
    rw [gapIn_none (fun z hz => h z (by simp [hz])) h2 (fun z hz => hr z (by simp [hz]))]
    simp
    omega
theorem gapIn_late {g x : Int} : ∀ {r : List (Int × Int)} {p : Int × Int}, x < p.2 → (∀ q ∈ r, x < q.2) → gapIn g x p r = false
  | [], p, _, _ => rfl
  | q :: r, p, h, hr => by
    simp only [gapIn]
    rw [gapIn_late (hr q (by simp)) (fun z hz => hr z (by simp [hz]))]
    simp
    omega
theorem gapIn_at {g x : Int} : ∀ {l : List (Int × Int)} {p : Int × Int} {q : Int × Int} {r : List (Int × Int)}, (∀ z ∈ p :: l, z.2 ≤ x) → (∀ z ∈ p :: l, z.1 < z.2) → (∀ z ∈ q :: r, x < z.1) → (∀ z ∈ q :: r, z.1 < z.2) →
    gapIn g x p (l ++ q :: r) = decide (q.1 - (l.getLastD p).2 ≤ g)
  | [], p, q, r, h1, h2, h3, h4 => by
    have a1 := h1 p (by simp)
    have a2 := h3 q (by simp)
    have a3 := h4 q (by simp)
    simp only [List.nil_append, gapIn, List.getLastD_nil]
    rw [gapIn_late (by omega) fun z hz => by have := h3 z (by simp [hz]); have := h4 z (by simp [hz]); omega]
    simp [a1, a2]
    try exact decide_eq_decide.mpr Iff.rfl
  | y :: l, p, q, r, h1, h2, h3, h4 => by
    have a1 := h1 y (by simp)
    have a2 := h2 y (by simp)
    simp only [List.cons_append, gapIn]
    rw [gapIn_at (l := l) (p := y) (fun z hz => h1 z (List.mem_cons_of_mem _ hz)) (fun z hz => h2 z (List.mem_cons_of_mem _ hz)) h3 h4]
    have : ¬ x < y.1 := by omega
    rw [List.getLastD_cons]
    simp [this]
theorem fmax_up : ∀ (l : List Int) (a : Int), l.Pairwise (· ≤ ·) → (∀ z ∈ l, a ≤ z) → l.foldl max a = l.getLastD a
  | [], a, _, _ => rfl
  | b :: l, a, h, h2 => by
    have h3 := List.pairwise_cons.mp h
    have h4 := h2 b (by simp)
    rw [List.foldl_cons, Int.max_eq_right h4, fmax_up l b h3.2 h3.1, List.getLastD_cons]
theorem lastD_map {X Y : Type} (f : X → Y) : ∀ (l : List X) (a : X), (l.map f).getLastD (f a) = f (l.getLastD a)
  | [], a => rfl
  | b :: l, a => by rw [List.map_cons, List.getLastD_cons, List.getLastD_cons, lastD_map f l b]
theorem fmin_up : ∀ (l : List Int) (a : Int), (∀ z ∈ l, a ≤ z) → l.foldl min a = a
  | [], a, _ => rfl
  | b :: l, a, h => by
    rw [List.foldl_cons, Int.min_eq_left (h b (by simp)), fmin_up l a fun z hz => h z (by simp [hz])]
theorem fill_told {g x : Int} {ps : List (Int × Int)} (h : Sep ps) (hc : covB ps x = false) :
    covB (fillP g ps) x = (match (ps.filter fun p => decide (p.2 ≤ x)).map (·.2), (ps.filter fun p => decide (x < p.1)).map (·.1) with
      | a :: as, b :: bs => decide (bs.foldl min b - as.foldl max a ≤ g)
      | _, _ => false) := by
  obtain ⟨l, r, rfl, hl, hr⟩ := part_at h hc
  have hlt := h.2
  have f1 : (l ++ r).filter (fun p => decide (p.2 ≤ x)) = l := by
    rw [List.filter_append, List.filter_eq_self.mpr fun p hp => by simpa using hl p hp, List.filter_eq_nil_iff.mpr fun p hp => by
      have := hr p hp
      have := hlt p (by simp [hp])
      simp; omega, List.append_nil]
  have f2 : (l ++ r).filter (fun p => decide (x < p.1)) = r := by
    rw [List.filter_append, List.filter_eq_nil_iff.mpr fun p hp => by
      have := hl p hp
      have := hlt p (by simp [hp])
      simp; omega, List.filter_eq_self.mpr fun p hp => by simpa using hr p hp, List.nil_append]
  rw [f1, f2]
  cases l with
  | nil =>
    cases r with
    | nil => rfl
    | cons q r =>
      rw [List.nil_append, fillP_cons, cov_fillG g x r q h]
      rw [List.nil_append] at hc
      rw [hc, gapIn_late (by have := hr q (by simp); have := hlt q (by simp); omega) fun z hz => by have := hr z (by simp [hz]); have := hlt z (by simp [hz]); omega]
      rfl
  | cons p l =>
    rw [List.cons_append, fillP_cons, cov_fillG g x (l ++ r) p h]
    rw [List.cons_append] at hc
    rw [hc, Bool.false_or]
    cases r with
    | nil =>
      rw [List.append_nil, gapIn_none (fun z hz => hl z (by simp [hz])) (hlt p (by simp)) fun z hz => hlt z (by simp [hz])]
      rfl
    | cons q r =>
      rw [gapIn_at hl (fun z hz => hlt z (by rw [List.mem_append]; exact .inl hz)) hr fun z hz => hlt z (by rw [List.mem_append]; exact .inr hz)]
      have hw := List.pairwise_append.mp h.1
      have e1 : (l.map (·.2)).foldl max p.2 = (l.getLastD p).2 := by
        have hw2 : ((p :: l).map (·.2)).Pairwise (· ≤ ·) := List.pairwise_map.mpr (hw.1.imp_of_mem fun {a b} _ hb hab => by have := hlt b (by rw [List.mem_append]; exact .inl hb); omega)
        have hw3 := List.pairwise_cons.mp hw2
        rw [fmax_up _ _ hw3.2 hw3.1]
        exact lastD_map _ l p
      have e2 : (r.map (·.1)).foldl min q.1 = q.1 := by
        refine fmin_up _ _ fun z hz => ?_
        obtain ⟨y, hy, rfl⟩ := List.mem_map.mp hz
        have := (List.pairwise_cons.mp hw.2.1).1 y hy
        have := hlt q (by simp)
        omega
      simp only [List.map_cons, e1, e2]
/-! ### spans out of their times -/
def upI (lo : Int) (n : Nat) : List Int := (List.range n).map fun (k : Nat) => lo + (k : Int)
theorem upI_add (lo : Int) (m n : Nat) : upI lo (m + n) = upI lo m ++ upI (lo + m) n := by
  simp only [upI, List.range_add, List.map_append, List.map_map]
  congr 1
  refine List.map_congr_left fun k _ => ?_
  simp only [Function.comp]
  omega
theorem upI_succ (lo : Int) (n : Nat) : upI lo (n + 1) = lo :: upI (lo + 1) n := by
  rw [Nat.add_comm, upI_add]
  simp [upI]
theorem mem_upI {lo x : Int} {n : Nat} : x ∈ upI lo n ↔ lo ≤ x ∧ x < lo + n := by
  simp only [upI, List.mem_map, List.mem_range]
  constructor
  · rintro ⟨k, hk, rfl⟩; omega
  · rintro ⟨h1, h2⟩; exact ⟨(x - lo).toNat, by omega, by omega⟩
def gathStep (acc : List (Int × Int)) (x : Int) : List (Int × Int) := match acc.getLast? with
  | none => acc ++ [(x, x + 1)]
  | some q => if q.2 = x then acc.dropLast ++ [(q.1, x + 1)] else acc ++ [(x, x + 1)]
theorem gathStep_len (acc : List (Int × Int)) (x : Int) : (gathStep acc x).length ≤ acc.length + 1 := by
  unfold gathStep
  split
  · simp
  · split
    · simp
      try omega
    · simp
theorem gath_run : ∀ (n : Nat) (acc : List (Int × Int)) (a b : Int), (upI b n).foldl gathStep (acc ++ [(a, b)]) = acc ++ [(a, b + n)]
  | 0, acc, a, b => by simp [upI]
  | n + 1, acc, a, b => by
    rw [upI_succ, List.foldl_cons]
    have : gathStep (acc ++ [(a, b)]) b = acc ++ [(a, b + 1)] := by simp [gathStep]
    rw [this, gath_run n acc a (b + 1)]
    congr 3
    try omega
theorem filter_no {lo : Int} {n : Nat} {rs : List (Int × Int)} (h : ∀ r ∈ rs, lo + n ≤ r.1) : (upI lo n).filter (covB rs) = [] := by
  rw [List.filter_eq_nil_iff]
  intro x hx
  have h1 := mem_upI.mp hx
  rw [covB_none fun r hr => by have := h r hr; omega]
  simp
theorem gath_sep : ∀ (rs acc : List (Int × Int)) (lo : Int) (n : Nat), Sep rs → (∀ r ∈ rs, lo ≤ r.1 ∧ r.2 ≤ lo + n) → (∀ q, acc.getLast? = some q → ∀ r ∈ rs, q.2 < r.1) → ((upI lo n).filter (covB rs)).foldl gathStep acc = acc ++ rs
  | [], acc, lo, n, _, _, _ => by rw [filter_no (by simp)]; simp
  | r :: rs, acc, lo, n, h, hb, ha => by
    have h1 := List.pairwise_cons.mp h.1
    have hr := h.2 r (by simp)
    have hrb := hb r (by simp)
    have hs : Sep rs := ⟨h1.2, fun z hz => h.2 z (List.mem_cons_of_mem _ hz)⟩
    obtain ⟨m, hm⟩ := Int.eq_ofNat_of_zero_le (show 0 ≤ r.1 - lo by omega)
    obtain ⟨w, hw⟩ := Int.eq_ofNat_of_zero_le (show 0 ≤ r.2 - (r.1 + 1) by omega)
    obtain ⟨e, he⟩ := Int.eq_ofNat_of_zero_le (show 0 ≤ lo + n - r.2 by omega)
    have hn : n = m + ((w + 1) + e) := by omega
    have hlo : lo + (m : Int) = r.1 := by omega
    have hr2 : r.1 + ((w + 1 : Nat) : Int) = r.2 := by omega
    rw [hn, upI_add, upI_add, hlo, hr2, List.filter_append, List.filter_append]
    have f1 : (upI lo m).filter (covB (r :: rs)) = [] := filter_no fun z hz => by
      rcases List.mem_cons.mp hz with rfl | hz
      · omega
      · have := h1.1 z hz; omega
    have f2 : (upI r.1 (w + 1)).filter (covB (r :: rs)) = upI r.1 (w + 1) := List.filter_eq_self.mpr fun x hx => by
      have h1 := mem_upI.mp hx
      rw [covB_cons, Bool.or_eq_true]
      left; simp; omega
    have f3 : (upI r.2 e).filter (covB (r :: rs)) = (upI r.2 e).filter (covB rs) := List.filter_congr fun x hx => by
      have h1 := mem_upI.mp hx
      rw [covB_cons]
      have : ¬ x < r.2 := by omega
      simp [this]
    rw [f1, f2, f3, List.nil_append, List.foldl_append, upI_succ, List.foldl_cons]
    have g1 : gathStep acc r.1 = acc ++ [(r.1, r.1 + 1)] := by
      unfold gathStep
      split
      · rfl
      · next q hq =>
        have := ha q hq r (by simp)
        rw [if_neg (by omega)]
    rw [g1, gath_run w acc r.1 (r.1 + 1), show r.1 + 1 + (w : Int) = r.2 by omega]
    rw [gath_sep rs (acc ++ [r]) r.2 e hs (fun z hz => ⟨by have := h1.1 z hz; omega, by have := (hb z (by simp [hz])).2; omega⟩) fun q hq z hz => by
      simp at hq
      subst hq
      exact h1.1 z hz]
    simp

/-! ### drawn pairs -/
theorem eraseIdx_mem {X : Type} {l : List X} {k : Nat} {x : X} (h : x ∈ l.eraseIdx k) : x ∈ l := List.mem_of_mem_eraseIdx h
theorem eraseIdx_map' {X Y : Type} (f : X → Y) : ∀ (l : List X) (k : Nat), (l.map f).eraseIdx k = (l.eraseIdx k).map f
  | [], _ => by simp
  | x :: l, 0 => by simp
  | x :: l, k + 1 => by simp [eraseIdx_map' f l k]
theorem mixed0 {d n : Nat} {t : SH} {c : Cell} {ps : List (Int × Int)} {Q : Int × Int → Prop} (hc : U n c) (hn : n + ps.length ≤ 2 ^ 40) (hl : ps.length ≤ 1000000) (hQ : ∀ p ∈ ps, Q p) :
    ∃ (qs : List (Int × Int)) (c' : Cell), qs.length = ps.length ∧ (∀ p ∈ qs, Q p) ∧ U (n + ps.length) c' ∧ callF G (d + 2) i__law_mixed [.ref 0, .ref 1] (c :: .lst (ps.map P2) :: t) = .ok (.rol (qs.map P2)) (c' :: .lst (ps.map P2) :: t) := by
  have hlim : lim63 (ps.length : Int) = true := lim63_ok (by omega) (by omega)
  obtain ⟨σ', s', h1, h2⟩ := for_range (body := turnF G (callF G (d + 1)) (.name 4) (match B__law_mixed with | .cons _ (.cons (.for_ _ _ b) _) => b | _ => .nil)) (σ := [some (.ref 0), some (.rol (ps.map P2)), some (.ref 1), some (.ref 2), none]) (s := [c, .lst (ps.map P2), .lst []]) 0 ps.length
    (fun i σ s => ∃ l4 cc left found, σ = [some (.ref 0), some (.rol (ps.map P2)), some (.ref 1), some (.ref 2), l4] ∧ s = [cc, .lst (left.map P2), .lst (found.map P2)] ∧ U (n + i) cc ∧ left.length + i = ps.length ∧ found.length = i ∧ (∀ p ∈ left, Q p) ∧ (∀ p ∈ found, Q p))
    ⟨none, c, ps, [], rfl, rfl, hc, rfl, rfl, hQ, by simp⟩ (fun i σ s hi ⟨l4, cc, left, found, hσ, hs, hU, hL, hF, hq1, hq2⟩ => by
      subst hσ; subst hs
      have hpos : 0 < left.length := by omega
      obtain ⟨r, c2, r1, r2, r3, r4⟩ := take0 (d := d) (t := [.lst (left.map P2), .lst (found.map P2)]) hU (by omega) (j := (left.length : Int)) (by omega) (by
        rw [Int.natAbs_natCast]
        exact log2_lit (Nat.lt_of_le_of_lt (m := 1000000) (by omega) (by decide)))
      obtain ⟨k, rfl⟩ := Int.eq_ofNat_of_zero_le r1
      have hk : k < left.length := by omega
      refine ⟨_, [c2, .lst ((left.eraseIdx k).map P2), .lst ((found ++ [left[k]]).map P2)], .inl ?_, some (.int (0 + (i : Int))), c2, left.eraseIdx k, found ++ [left[k]], rfl, rfl, r3, ?_, by simp [hF], fun p hp => hq1 p (eraseIdx_mem hp), fun p hp => ?_⟩
      · have e1 : found.length < 16777216 := by omega
        have e2 : lim63 (k : Int) = true := lim63_ok (by omega) (by omega)
        simp [-lim63_ok, B__law_mixed, r4, ixN_nat hk, hk, e1, e2, eraseIdx_map']
      · rw [List.length_eraseIdx_of_lt hk]; omega
      · rcases List.mem_append.mp hp with hp | hp
        · exact hq2 p hp
        · simp at hp; subst hp; exact hq1 _ (List.getElem_mem hk))
  obtain ⟨l4, cc, left, found, rfl, rfl, hU, hL, hF, hq1, hq2⟩ := h2
  refine ⟨found, cc, by omega, hq2, hU, ?_⟩
  have := call_muF (s := c :: .lst (ps.map P2) :: t) (n := 0) (d := d + 1) (us := [.ref 1]) (ws := [.rol (ps.map P2)]) (v := .ref 2) (s3 := [cc, .lst (left.map P2), .lst (found.map P2)]) (w := .rol (found.map P2)) (c3 := cc) g__law_mixed rfl rfl rfl hc.pure (by rw [List.mapM_cons, fz_ref rfl rfl (P2L_pure ps)]; rfl) rfl ?_ rfl hU.pure (by obtain ⟨a, b, k, rfl, _⟩ := hU; rfl) (fz_ref rfl rfl (by simp)) ?_
  · simpa using this
  · simp only [F__law_mixed]
    simp [B__law_mixed] at h1
    simp [-lim63_ok, B__law_mixed, hlim, h1]
  · unfold nrV
    rw [if_neg (by simp)]
    simp only [List.getElem?_cons_succ, List.getElem?_cons_zero, List.all_eq_true]
    intro v hv
    obtain ⟨p, _, rfl⟩ := List.mem_map.mp hv
    exact nrV_pure rfl rfl 15
theorem pairs0 {d n : Nat} {t : SH} {c : Cell} {most wide : Int} (hc : U n c) (hn : n + 10 * most.toNat + 10 ≤ 2 ^ 40) (hm : 0 ≤ most) (hm2 : most ≤ 1000) (hw : 0 < wide) (hw2 : wide ≤ 1000000) :
    ∃ (qs : List (Int × Int)) (c' : Cell), qs.length ≤ most.toNat ∧ (∀ p ∈ qs, p.1 < p.2) ∧ U (n + 10 * most.toNat + 10) c' ∧ callF G (d + 3) i__law_pairs [.ref 0, .int most, .int wide] (c :: t) = .ok (.tup (qs.map P2)) (c' :: t) := by
  have hw3 : wide.natAbs.log2 < 9000 := log2_lit (by omega)
  obtain ⟨r0, c0, a1, a2, a3, a4⟩ := take0 (d := d + 1) (t := [.lst []]) hc (by omega) (j := 9) (by omega) (log2_lit (by decide))
  obtain ⟨r1, c1, b1, b2, b3, b4⟩ := take0 (d := d + 1) (t := [.lst []]) a3 (by omega) (j := most + 1) (by omega) (log2_lit (by omega))
  obtain ⟨k1, rfl⟩ := Int.eq_ofNat_of_zero_le b1
  have hk1 : k1 ≤ most.toNat := by omega
  obtain ⟨σ', s', h1, h2⟩ := for_range (body := turnF G (callF G (d + 2)) (.name 5) (match B__law_pairs with | .cons _ (.cons (.for_ _ _ b) _) => b | _ => .nil)) (σ := [some (.ref 0), some (.int most), some (.int wide), some (.ref 1), some (.int (r0 - 4)), none, none]) (s := [c1, .lst []]) 0 k1
    (fun i σ s => ∃ l5 l6 cc here found, σ = [some (.ref 0), some (.int most), some (.int wide), some (.ref 1), some (.int here), l5, l6] ∧ s = [cc, .lst (found.map P2)] ∧ U (n + 2 + 4 * i) cc ∧ found.length = i ∧ (∀ p ∈ found, p.1 < p.2))
    ⟨none, none, c1, r0 - 4, [], rfl, rfl, b3, rfl, by simp⟩ (fun i σ s hi ⟨l5, l6, cc, here, found, hσ, hs, hU, hF, hq⟩ => by
      subst hσ; subst hs
      obtain ⟨r2, c2, p1, p2, p3, p4⟩ := take0 (d := d + 1) (t := [.lst (found.map P2)]) hU (by omega) (j := wide) hw hw3
      obtain ⟨v3, c3, q1, q2, q3⟩ := of0 (d := d) (t := [.lst (found.map P2)]) p3 (by omega) (xs := [.int 0, .int 1, .int 1, .int 2, .int 3, .int (-2), .int r2]) (by simp) (by simp) (by simp)
      obtain ⟨w3, rfl⟩ : ∃ w : Int, v3 = .int w := by
        simp only [List.mem_cons, List.not_mem_nil, or_false] at q1
        rcases q1 with rfl | rfl | rfl | rfl | rfl | rfl | rfl <;> exact ⟨_, rfl⟩
      obtain ⟨r4, c4, s1, s2, s3, s4⟩ := take0 (d := d + 1) (t := [.lst (found.map P2)]) q2 (by omega) (j := wide) hw hw3
      obtain ⟨v5, c5, t1, t2, t3⟩ := of0 (d := d) (t := [.lst (found.map P2)]) s3 (by omega) (xs := [.int 0, .int 0, .int 1, .int 2, .int r4]) (by simp) (by simp) (by simp)
      obtain ⟨w5, rfl, hw5⟩ : ∃ w : Int, v5 = .int w ∧ 0 ≤ w := by
        simp only [List.mem_cons, List.not_mem_nil, or_false] at t1
        rcases t1 with rfl | rfl | rfl | rfl | rfl <;> exact ⟨_, rfl, by omega⟩
      refine ⟨_, [c5, .lst ((found ++ [(here + w3, here + w3 + 1 + w5)]).map P2)], .inl ?_, some (.int (0 + (i : Int))), some (.int (here + w3 + 1 + w5)), c5, here + w3 + 1 + w5, found ++ [(here + w3, here + w3 + 1 + w5)], rfl, rfl, t2, by simp [hF], fun p hp => ?_⟩
      · have e1 : found.length < 16777216 := by omega
        simp [B__law_pairs, p4, q3, s4, t3, e1, P2]
      · rcases List.mem_append.mp hp with hp | hp
        · exact hq p hp
        · simp at hp; subst hp
          show here + w3 < here + w3 + 1 + w5
          omega)
  obtain ⟨l5, l6, cc, here, found, rfl, rfl, hU, hF, hq⟩ := h2
  obtain ⟨qs, c6, m1, m2, m3, m4⟩ := mixed0 (d := d) (t := []) (Q := fun p => p.1 < p.2) hU (by omega) (by omega) hq
  refine ⟨qs, c6, by omega, m2, m3.mono (by omega), ?_⟩
  have := call_mu (s := c :: t) (n := 0) (d := d + 2) (us := [.int most, .int wide]) (v := .tup (qs.map P2)) (s3 := [c6, .lst (found.map P2)]) (w := .tup (qs.map P2)) (c3 := c6) g__law_pairs rfl rfl rfl hc.pure rfl rfl ?_ rfl m3.pure (fzP (by simp) 16)
  · simpa using this
  · have hlim : lim63 (k1 : Int) = true := lim63_ok (by omega) (by omega)
    simp only [F__law_pairs]
    simp [B__law_pairs] at h1
    simp [-lim63_ok, B__law_pairs, a4, b4, hlim, h1, m4]

/-! ### drawn steps -/
@[simp] theorem in_fill (h : List Cell) : cmpP h .in_ (.str "fill") (.tup [.str "fill", .str "drop"]) = some true := rfl
@[simp] theorem in_drop (h : List Cell) : cmpP h .in_ (.str "drop") (.tup [.str "fill", .str "drop"]) = some true := rfl
@[simp] theorem in_widen (h : List Cell) : cmpP h .in_ (.str "widen") (.tup [.str "fill", .str "drop"]) = some false := rfl
@[simp] theorem in_trim (h : List Cell) : cmpP h .in_ (.str "trim") (.tup [.str "fill", .str "drop"]) = some false := rfl
@[simp] theorem in_shift (h : List Cell) : cmpP h .in_ (.str "shift") (.tup [.str "fill", .str "drop"]) = some false := rfl
def Stp.upTo (m : Int) (t : Stp) : Prop := ∀ i ∈ t.am, -m ≤ i ∧ i ≤ m
theorem stage0 {d n : Nat} {t : SH} {c : Cell} {m : Int} (hc : U n c) (hn : n + 3 ≤ 2 ^ 40) (hm : 0 ≤ m) (hm2 : m ≤ 1000) :
    ∃ (st : Stp) (c' : Cell), st.ok ∧ st.upTo m ∧ U (n + 3) c' ∧ callF G (d + 3) i__law_stage [.ref 0, .int m] (c :: t) = .ok (stgV st) (c' :: t) := by
  obtain ⟨v, c1, q1, q2, q3⟩ := of0 (d := d) (t := []) hc (by omega) (xs := [.str "fill", .str "drop", .str "widen", .str "trim", .str "widen", .str "trim", .str "shift"]) (by simp) (by simp) (by simp)
  obtain ⟨r1, c2, a1, a2, a3, a4⟩ := take0 (d := d + 1) (t := []) q2 (by omega) (j := m + 1) (by omega) (log2_lit (by omega))
  obtain ⟨r2, c3, b1, b2, b3, b4⟩ := take0 (d := d + 1) (t := []) a3 (by omega) (j := m + 1) (by omega) (log2_lit (by omega))
  obtain ⟨r3, c4, e1, e2, e3, e4⟩ := take0 (d := d + 1) (t := []) q2 (by omega) (j := 2 * m + 1) (by omega) (log2_lit (by omega))
  have hmul : mulOk 2 m = true := mulOk_l (by decide)
  have fin : ∀ (st : Stp) (c' : Cell), U (n + 3) c' → exs G (callF G (d + 2)) F__law_stage.body [some (.ref 0), some (.int m), none] [c] = .ret (stgV st) [c'] → callF G (d + 3) i__law_stage [.ref 0, .int m] (c :: t) = .ok (stgV st) (c' :: t) := fun st c' hU h => by
    have := call_mu (s := c :: t) (n := 0) (d := d + 2) (us := [.int m]) (v := stgV st) (s3 := [c']) (w := stgV st) g__law_stage rfl rfl rfl hc.pure (by simp) rfl h rfl hU.pure (fzP (by simp) 16)
    simpa using this
  simp only [List.mem_cons, List.not_mem_nil, or_false] at q1
  have one : ∀ i : Int, -m ≤ i → i ≤ m → ∀ j ∈ [i], -m ≤ j ∧ j ≤ m := fun i h1 h2 j hj => by simp at hj; subst hj; exact ⟨h1, h2⟩
  have two : ∀ i k : Int, -m ≤ i → i ≤ m → -m ≤ k → k ≤ m → ∀ j ∈ [i, k], -m ≤ j ∧ j ≤ m := fun i k h1 h2 h3 h4 j hj => by
    simp at hj
    rcases hj with rfl | rfl
    · exact ⟨h1, h2⟩
    · exact ⟨h3, h4⟩
  rcases q1 with rfl | rfl | rfl | rfl | rfl | rfl | rfl
  · refine ⟨.fill r1, c2, a1, one r1 (by omega) (by omega), a3.mono (by omega), fin _ _ (a3.mono (by omega)) ?_⟩
    simp [F__law_stage, B__law_stage, q3, a4, stgV, amV, Stp.kind, Stp.am]
  · refine ⟨.drop r1, c2, a1, one r1 (by omega) (by omega), a3.mono (by omega), fin _ _ (a3.mono (by omega)) ?_⟩
    simp [F__law_stage, B__law_stage, q3, a4, stgV, amV, Stp.kind, Stp.am]
  · refine ⟨.widen r1 r2, c3, ⟨a1, b1⟩, two r1 r2 (by omega) (by omega) (by omega) (by omega), b3, fin _ _ b3 ?_⟩
    simp [F__law_stage, B__law_stage, q3, a4, b4, stgV, amV, Stp.kind, Stp.am]
  · refine ⟨.trim r1 r2, c3, ⟨a1, b1⟩, two r1 r2 (by omega) (by omega) (by omega) (by omega), b3, fin _ _ b3 ?_⟩
    simp [F__law_stage, B__law_stage, q3, a4, b4, stgV, amV, Stp.kind, Stp.am]
  · refine ⟨.widen r1 r2, c3, ⟨a1, b1⟩, two r1 r2 (by omega) (by omega) (by omega) (by omega), b3, fin _ _ b3 ?_⟩
    simp [F__law_stage, B__law_stage, q3, a4, b4, stgV, amV, Stp.kind, Stp.am]
  · refine ⟨.trim r1 r2, c3, ⟨a1, b1⟩, two r1 r2 (by omega) (by omega) (by omega) (by omega), b3, fin _ _ b3 ?_⟩
    simp [F__law_stage, B__law_stage, q3, a4, b4, stgV, amV, Stp.kind, Stp.am]
  · refine ⟨.shift (r3 - m), c4, trivial, one (r3 - m) (by omega) (by omega), e3.mono (by omega), fin _ _ (e3.mono (by omega)) ?_⟩
    simp [F__law_stage, B__law_stage, q3, e4, stgV, amV, Stp.kind, Stp.am, hmul]

/-! ### the law's own spans and steps -/
theorem ne_nil (call : Nat → List PV → SH → R PV) {s : SH} {n : Nat} {ps : List (Int × Int)} (h : s[n]? = some (.lst (ps.map P2))) : cmpV G call .ne (.ref n) (.rol []) s = .ok (.bl (!ps.isEmpty)) s := by
  have e1 : daOf s 8 (.ref n) = some (.lst (ps.map D2)) := by
    simp only [daOf, h, mapM_map_some fun p _ => daOf_P2 s 6 p]; rfl
  have e2 : insOf G s (.ref n) = none := by simp only [insOf, h]
  unfold cmpV
  rw [e2]
  show liftO ((cmpP s .ne (.ref n) (.rol [])).map PV.bl) s 17 = _
  rw [cmpP_ne]
  unfold eqP
  rw [e1]
  cases ps with
  | nil => rfl
  | cons p ps => rfl
theorem met_ok {d : Nat} {s : SH} {v : PV} {ps : List (Int × Int)} (hv : v = .tup (ps.map P2) ∨ v = .rol (ps.map P2)) (hl : ps.length ≤ 1000000) : callF G (d + 1) i__law_met [v] s = .ok (.tup ((joinP ps).map P2)) s := by
  have hvp : v.pureB = true := by rcases hv with rfl | rfl <;> simp
  have hsq : ∀ s : SH, seqOf s v = some (ps.map P2) := fun s => by rcases hv with rfl | rfl <;> rfl
  obtain ⟨σ', s', h1, h2⟩ := for_items (g := P2) (body := turnF G (callF G d) (.names [2, 3]) (match B__law_met with | .cons _ (.cons (.for_ _ _ b) _) => b | _ => .nil)) (σ := [some v, some (.ref 0), none, none]) (s := [.lst []]) (sortP ps)
    (fun done σ s => ∃ l1 l2, σ = [some v, some (.ref 0), l1, l2] ∧ s = [.lst ((done.foldl joinStep []).map P2)] ∧ (done.foldl joinStep []).length ≤ done.length)
    ⟨none, none, rfl, rfl, Nat.le_refl _⟩ (fun done p rest σ s e ⟨l1, l2, hσ, hs, hn⟩ => by
      subst hσ; subst hs
      have hd : done.length ≤ 1000000 := by have := congrArg List.length e; simp at this; omega
      have hn2 : (joinStep (done.foldl joinStep []) p).length ≤ done.length + 1 := Nat.le_trans (joinStep_len _ _) (by omega)
      refine ⟨[some v, some (.ref 0), some (.int p.1), some (.int p.2)], [.lst ((joinStep (done.foldl joinStep []) p).map P2)], .inl ?_, some (.int p.1), some (.int p.2), rfl, by simp, by simpa using hn2⟩
      generalize hacc : done.foldl joinStep [] = acc at hn
      have hlt : acc.length < 16777216 := Nat.lt_of_le_of_lt hn (Nat.lt_of_le_of_lt hd (by decide))
      have hne := ne_nil (callF G d) (s := [.lst (acc.map P2)]) (n := 0) (ps := acc) rfl
      rcases List.eq_nil_or_concat acc with rfl | ⟨ys, q, rfl⟩
      · simp at hne
        simp [B__law_met, P2, joinStep, hne]
      · have hlt' : ys.length + 1 < 16777216 := by simpa using hlt
        simp [P2] at hne
        by_cases hq : p.1 ≤ q.2
        · simp [B__law_met, P2, joinStep, hq, hne, Int.max_comm]
        · simp [B__law_met, P2, joinStep, hq, hlt', hne])
  obtain ⟨l1, l2, rfl, rfl, _⟩ := h2
  refine call_pure g__law_met rfl rfl (by simp [hvp]) rfl (v := .tup ((joinP ps).map P2)) (s3 := [.lst ((joinP ps).map P2)]) ?_ (fzP (by simp) 16)
  simp only [F__law_met]
  simp [B__law_met, sort_P2, hsq]
  simp [B__law_met] at h1
  rw [h1]
  simp [joinP]

/-! ### drawn pairs within narrow bounds -/
def Fit5 (p : Int × Int) : Prop := p.1 < p.2 ∧ -20 ≤ p.1 ∧ p.2 ≤ 140
theorem pairs5 {d n : Nat} {t : SH} {c : Cell} (hc : U n c) (hn : n + 90 ≤ 2 ^ 40) :
    ∃ (qs : List (Int × Int)) (c' : Cell), qs.length ≤ 8 ∧ (∀ p ∈ qs, Fit5 p) ∧ U (n + 90) c' ∧ callF G (d + 3) i__law_pairs [.ref 0, .int 8, .int 9] (c :: t) = .ok (.tup (qs.map P2)) (c' :: t) := by
  have hw3 : (9 : Int).natAbs.log2 < 9000 := log2_lit (by decide)
  obtain ⟨r0, c0, a1, a2, a3, a4⟩ := take0 (d := d + 1) (t := [.lst []]) hc (by omega) (j := 9) (by omega) (log2_lit (by decide))
  obtain ⟨r1, c1, b1, b2, b3, b4⟩ := take0 (d := d + 1) (t := [.lst []]) a3 (by omega) (j := 9) (by omega) (log2_lit (by decide))
  obtain ⟨k1, rfl⟩ := Int.eq_ofNat_of_zero_le b1
  have hk1 : k1 ≤ 8 := by omega
  obtain ⟨σ', s', h1, h2⟩ := for_range (body := turnF G (callF G (d + 2)) (.name 5) (match B__law_pairs with | .cons _ (.cons (.for_ _ _ b) _) => b | _ => .nil)) (σ := [some (.ref 0), some (.int 8), some (.int 9), some (.ref 1), some (.int (r0 - 4)), none, none]) (s := [c1, .lst []]) 0 k1
    (fun i σ s => ∃ l5 l6 cc here found, σ = [some (.ref 0), some (.int 8), some (.int 9), some (.ref 1), some (.int here), l5, l6] ∧ s = [cc, .lst (found.map P2)] ∧ U (n + 2 + 4 * i) cc ∧ found.length = i ∧ (∀ p ∈ found, Fit5 p) ∧ -(4 + 2 * (i : Int)) ≤ here ∧ here ≤ 4 + 17 * (i : Int))
    ⟨none, none, c1, r0 - 4, [], rfl, rfl, b3, rfl, by simp, by omega, by omega⟩ (fun i σ s hi ⟨l5, l6, cc, here, found, hσ, hs, hU, hF, hq, hb1, hb2⟩ => by
      subst hσ; subst hs
      obtain ⟨r2, c2, p1, p2, p3, p4⟩ := take0 (d := d + 1) (t := [.lst (found.map P2)]) hU (by omega) (j := 9) (by omega) hw3
      obtain ⟨v3, c3, q1, q2, q3⟩ := of0 (d := d) (t := [.lst (found.map P2)]) p3 (by omega) (xs := [.int 0, .int 1, .int 1, .int 2, .int 3, .int (-2), .int r2]) (by simp) (by simp) (by simp)
      obtain ⟨w3, rfl, hw31, hw32⟩ : ∃ w : Int, v3 = .int w ∧ -2 ≤ w ∧ w ≤ 8 := by
        simp only [List.mem_cons, List.not_mem_nil, or_false] at q1
        rcases q1 with rfl | rfl | rfl | rfl | rfl | rfl | rfl <;> exact ⟨_, rfl, by omega, by omega⟩
      obtain ⟨r4, c4, s1, s2, s3, s4⟩ := take0 (d := d + 1) (t := [.lst (found.map P2)]) q2 (by omega) (j := 9) (by omega) hw3
      obtain ⟨v5, c5, t1, t2, t3⟩ := of0 (d := d) (t := [.lst (found.map P2)]) s3 (by omega) (xs := [.int 0, .int 0, .int 1, .int 2, .int r4]) (by simp) (by simp) (by simp)
      obtain ⟨w5, rfl, hw5, hw6⟩ : ∃ w : Int, v5 = .int w ∧ 0 ≤ w ∧ w ≤ 8 := by
        simp only [List.mem_cons, List.not_mem_nil, or_false] at t1
        rcases t1 with rfl | rfl | rfl | rfl | rfl <;> exact ⟨_, rfl, by omega, by omega⟩
      refine ⟨_, [c5, .lst ((found ++ [(here + w3, here + w3 + 1 + w5)]).map P2)], .inl ?_, some (.int (0 + (i : Int))), some (.int (here + w3 + 1 + w5)), c5, here + w3 + 1 + w5, found ++ [(here + w3, here + w3 + 1 + w5)], rfl, rfl, t2, by simp [hF], fun p hp => ?_, by omega, by omega⟩
      · have e1 : found.length < 16777216 := by omega
        simp [B__law_pairs, p4, q3, s4, t3, e1, P2]
      · rcases List.mem_append.mp hp with hp | hp
        · exact hq p hp
        · simp at hp; subst hp
          refine ⟨?_, ?_, ?_⟩
          · show here + w3 < here + w3 + 1 + w5
            omega
          · show -20 ≤ here + w3
            omega
          · show here + w3 + 1 + w5 ≤ 140
            omega)
  obtain ⟨l5, l6, cc, here, found, rfl, rfl, hU, hF, hq, _, _⟩ := h2
  obtain ⟨qs, c6, m1, m2, m3, m4⟩ := mixed0 (d := d) (t := []) (Q := Fit5) hU (by omega) (by omega) hq
  refine ⟨qs, c6, by omega, m2, m3.mono (by omega), ?_⟩
  have := call_mu (s := c :: t) (n := 0) (d := d + 2) (us := [.int 8, .int 9]) (v := .tup (qs.map P2)) (s3 := [c6, .lst (found.map P2)]) (w := .tup (qs.map P2)) (c3 := c6) g__law_pairs rfl rfl rfl hc.pure rfl rfl ?_ rfl m3.pure (fzP (by simp) 16)
  · simpa using this
  · have hlim : lim63 (k1 : Int) = true := lim63_ok (by omega) (by omega)
    simp only [F__law_pairs]
    simp [B__law_pairs] at h1
    simp [-lim63_ok, B__law_pairs, a4, b4, hlim, h1, m4]

/-! ### whether a time is in what a step makes -/
theorem loop_in {body : PV → Sl → SH → Fl} {σ0 : Option PV → Option PV → Sl} {T : Int × Int → Bool} (h : ∀ p l4 l5, body (P2 p) (σ0 l4 l5) [] = if T p = true then .ret (.bl true) [] else .next (σ0 (some (.int p.1)) (some (.int p.2))) []) (ps : List (Int × Int)) (l4 l5 : Option PV) :
    (ps.any T = true ∧ forS (.items (ps.map P2)) body (ps.length + 1) 0 (σ0 l4 l5) [] = .ret (.bl true) []) ∨ (ps.any T = false ∧ ∃ m4 m5, forS (.items (ps.map P2)) body (ps.length + 1) 0 (σ0 l4 l5) [] = .next (σ0 m4 m5) []) := by
  rcases for_ret (g := P2) (body := body) (σ := σ0 l4 l5) (s := []) ps (fun done σ s => done.any T = false ∧ s = [] ∧ ∃ m4 m5, σ = σ0 m4 m5) (fun v s => v = .bl true ∧ s = [] ∧ ps.any T = true) ⟨rfl, rfl, l4, l5, rfl⟩ (fun done x rest σ s e ⟨h1, h2, m4, m5, h3⟩ => by
      subst h2; subst h3
      by_cases ht : T x = true
      · refine .inr ⟨_, _, by rw [h, if_pos ht], rfl, rfl, ?_⟩
        rw [e, List.any_append, List.any_cons, ht]; simp
      · refine .inl ⟨_, _, .inl (by rw [h, if_neg ht]), ?_, rfl, _, _, rfl⟩
        rw [List.any_append, h1, List.any_cons]
        simpa using ht) with ⟨σ', s', e, h1, h2, m4, m5, h3⟩ | ⟨v, s', e, h1, h2, h3⟩
  · subst h2; subst h3; exact .inr ⟨h1, m4, m5, e⟩
  · subst h1; subst h2; exact .inl ⟨h3, e⟩
theorem fm_filter {X : Type} (P : X → Bool) (g : X → PV) : ∀ xs : List X, (xs.filterMap fun x => if P x = true then some (g x) else none) = (xs.filter P).map g
  | [] => rfl
  | x :: xs => by
    rw [List.filterMap_cons, List.filter_cons, fm_filter P g xs]
    cases P x <;> simp
theorem getInts_map : ∀ is : List Int, getInts (is.map PV.int) = some is
  | [] => rfl
  | i :: is => by
    show (getInts (is.map PV.int)).map (i :: ·) = _
    rw [getInts_map is]; rfl
theorem ne_nilI (h : List Cell) (is : List Int) : cmpP h .ne (.rol (is.map PV.int)) (.rol []) = some (!is.isEmpty) := by
  have key : ∀ us : List Int, (us.map PV.int).mapM (daOf h 7) = some (us.map Da.int) := fun us => mapM_map_some fun x _ => rfl
  rw [cmpP_ne]
  unfold eqP
  have e3 : daOf h 8 (.rol (is.map PV.int)) = some (.lst (is.map Da.int)) := by
    show ((is.map PV.int).mapM (daOf h 7)).map Da.lst = _
    rw [key]; rfl
  rw [e3]
  cases is <;> rfl
theorem is_in_ok {d : Nat} {s : SH} {t : Stp} {ps : List (Int × Int)} {x : Int} (hS : Sep ps) (hl : ps.length ≤ 1000000) :
    callF G (d + 1) i__law_is_in [.tup (ps.map P2), .str t.kind, amV t, .int x] s = .ok (.bl (covB (doneP ps t) x)) s := by
  have hsz : ps.length ≤ 16777216 := by omega
  have cj : covB (doneP ps t) x = covB (t.raw ps) x := cov_join _ _
  rw [cj]
  have c1 := fun s => comp_filter (g := P2) (f := fun p => if decide (p.2 ≤ x) = true then some (PV.int p.2) else none) (s := s) (xs := ps) (turn := turnC G (callF G d) (.v 5) (.names [4, 5]) (.c (.cmp .le (.v 5) (.v 3))) [some (.tup (ps.map P2)), some (.str t.kind), some (amV t), some (.int x), none, none, none, none, none]) (fun p _ => by
    unfold turnC
    by_cases hx : p.2 ≤ x <;> simp [P2, hx]) hsz
  rw [fm_filter (fun p : Int × Int => decide (p.2 ≤ x)) (fun p => PV.int p.2)] at c1
  generalize hA : ps.filter (fun p => decide (p.2 ≤ x)) = A at c1
  have c2 := fun s => comp_filter (g := P2) (f := fun p => if decide (x < p.1) = true then some (PV.int p.1) else none) (s := s) (xs := ps) (turn := turnC G (callF G d) (.v 4) (.names [4, 5]) (.c (.cmp .gt (.v 4) (.v 3))) [some (.tup (ps.map P2)), some (.str t.kind), some (amV t), some (.int x), none, none, some (.rol (A.map fun p => PV.int p.2)), none, none]) (fun p _ => by
    unfold turnC
    by_cases hx : x < p.1 <;> simp [P2, hx]) hsz
  rw [fm_filter (fun p : Int × Int => decide (x < p.1)) (fun p => PV.int p.1)] at c2
  generalize hB : ps.filter (fun p => decide (x < p.1)) = B at c2
  refine call_pure g__law_is_in rfl rfl (by simp) rfl (v := .bl (covB (t.raw ps) x)) (s3 := []) ?_ rfl
  have main : ∀ (T : Int × Int → Bool) (e : Bool), (∀ p l4 l5, turnF G (callF G d) (.names [4, 5]) (match B__law_is_in with | .cons (.for_ _ _ b) _ => b | _ => .nil) (P2 p) [some (.tup (ps.map P2)), some (.str t.kind), some (amV t), some (.int x), l4, l5, none, none, none] [] = if T p = true then .ret (.bl true) [] else .next [some (.tup (ps.map P2)), some (.str t.kind), some (amV t), some (.int x), some (.int p.1), some (.int p.2), none, none, none] []) →
      covB (t.raw ps) x = (ps.any T || e) → (ps.any T = false → ∀ m4 m5 s, ev G (callF G d) (.and_ (.cmp .eq (.v 1) (.c (.str "fill"))) (.and_ (.cmp .ne (.v 6) (.prim true .lst .nil)) (.and_ (.cmp .ne (.v 7) (.prim true .lst .nil)) (.cmp .le (.bin true .sub (.prim true .min1 (.cons (.v 7) .nil)) (.prim true .max1 (.cons (.v 6) .nil))) (.prim true .ix (.cons (.v 2) (.cons (.c (.int (0))) .nil))))))) [some (.tup (ps.map P2)), some (.str t.kind), some (amV t), some (.int x), m4, m5, some (.rol (A.map fun p => PV.int p.2)), some (.rol (B.map fun p => PV.int p.1)), none] s = .ok (.bl e) s) →
      exs G (callF G d) F__law_is_in.body [some (.tup (ps.map P2)), some (.str t.kind), some (amV t), some (.int x), none, none, none, none, none] [] = .ret (.bl (covB (t.raw ps) x)) [] := fun T e hb hc he => by
    rw [hc]
    rcases loop_in (σ0 := fun l4 l5 => [some (.tup (ps.map P2)), some (.str t.kind), some (amV t), some (.int x), l4, l5, none, none, none]) hb ps none none with ⟨ha, h1⟩ | ⟨ha, m4, m5, h1⟩
    · simp only [F__law_is_in]
      simp only [B__law_is_in] at h1 ⊢
      simp [h1, ha]
    · have he := he ha m4 m5
      simp only [F__law_is_in]
      simp only [B__law_is_in] at h1 ⊢
      rw [exs_cons]
      conv => lhs; arg 1; simp [h1]
      simp only [at_next]
      rw [exs_cons]
      conv => lhs; arg 1; simp [c1]
      simp only [at_next]
      rw [exs_cons]
      conv => lhs; arg 1; simp [c2]
      simp only [at_next]
      rw [exs_cons]
      conv => lhs; arg 1; rw [ex_ret, he]
      simp [ha]
  cases t with
  | shift m =>
    refine main (fun p => decide (p.1 + m ≤ x) && decide (x < p.2 + m)) false (fun p l4 l5 => ?_) (by simp only [Stp.raw]; rw [cov_move]; simp) (fun _ m4 m5 s => by simp [Stp.kind])
    by_cases h1 : p.1 + m ≤ x <;> by_cases h2 : x < p.2 + m
    all_goals
      have e1 : (p.1 ≤ x - m) = (p.1 + m ≤ x) := by simp; omega
      have e2 : (x - m < p.2) = (x < p.2 + m) := by simp; omega
      unfold turnF
      simp [B__law_is_in, P2, Stp.kind, amV, Stp.am, e1, e2, h1, h2]
  | widen a b =>
    refine main (fun p => decide (p.1 + -a ≤ x) && decide (x < p.2 + b)) false (fun p l4 l5 => ?_) (by simp only [Stp.raw]; rw [cov_move]; simp) (fun _ m4 m5 s => by simp [Stp.kind])
    by_cases h1 : p.1 - a ≤ x <;> by_cases h2 : x < p.2 + b
    all_goals
      have e1 : (p.1 + -a ≤ x) = (p.1 - a ≤ x) := by simp; omega
      unfold turnF
      simp [B__law_is_in, P2, Stp.kind, amV, Stp.am, e1, h1, h2]
  | trim a b =>
    refine main (fun p => decide (p.1 + a ≤ x) && decide (x < p.2 + -b)) false (fun p l4 l5 => ?_) (by simp only [Stp.raw]; rw [cov_move]; simp) (fun _ m4 m5 s => by simp [Stp.kind])
    by_cases h1 : p.1 + a ≤ x <;> by_cases h2 : x < p.2 - b
    all_goals
      have e1 : (x < p.2 + -b) = (x < p.2 - b) := by simp; omega
      unfold turnF
      simp [B__law_is_in, P2, Stp.kind, amV, Stp.am, e1, h1, h2]
  | drop m =>
    refine main (fun p => decide (p.1 ≤ x) && (decide (x < p.2) && decide (m < p.2 - p.1))) false (fun p l4 l5 => ?_) (by
      simp only [Stp.raw, Bool.or_false]
      rw [Bool.eq_iff_iff, covB_iff, List.any_eq_true]
      simp only [List.mem_filter, Bool.and_eq_true, decide_eq_true_eq]
      constructor
      · rintro ⟨r, ⟨h1, h2⟩, h3, h4⟩; exact ⟨r, h1, h3, h4, h2⟩
      · rintro ⟨r, h1, h3, h4, h2⟩; exact ⟨r, ⟨h1, h2⟩, h3, h4⟩) (fun _ m4 m5 s => by simp [Stp.kind])
    by_cases h1 : p.1 ≤ x <;> by_cases h2 : x < p.2 <;> by_cases h3 : m < p.2 - p.1
    all_goals
      unfold turnF
      simp [B__law_is_in, P2, Stp.kind, amV, Stp.am, h1, h2, h3]
  | fill g =>
    by_cases hc : covB ps x = true
    · have hf : covB (fillP g ps) x = true := by
        cases ps with
        | nil => simp [covB] at hc
        | cons p r => rw [fillP_cons, cov_fillG g x r p hS, hc]; rfl
      refine main (fun p => decide (p.1 ≤ x) && decide (x < p.2)) true (fun p l4 l5 => ?_) (by simp only [Stp.raw]; rw [hf]; simp) (fun h => by rw [show ps.any (fun p => decide (p.1 ≤ x) && decide (x < p.2)) = covB ps x from rfl, hc] at h; cases h)
      by_cases h1 : p.1 ≤ x <;> by_cases h2 : x < p.2
      all_goals
        unfold turnF
        simp [B__law_is_in, P2, Stp.kind, amV, Stp.am, h1, h2]
    · have hc : covB ps x = false := by simpa using hc
      have ft := fill_told (g := g) hS hc
      rw [hA, hB] at ft
      refine main (fun p => decide (p.1 ≤ x) && decide (x < p.2)) (covB (fillP g ps) x) (fun p l4 l5 => ?_) (by simp only [Stp.raw]; rw [show ps.any (fun p => decide (p.1 ≤ x) && decide (x < p.2)) = covB ps x from rfl, hc]; rfl) (fun _ m4 m5 s => ?_)
      · by_cases h1 : p.1 ≤ x <;> by_cases h2 : x < p.2
        all_goals
          unfold turnF
          simp [B__law_is_in, P2, Stp.kind, amV, Stp.am, h1, h2]
      · rw [ft]
        have n1 := fun h => ne_nilI h (A.map (·.2))
        have n2 := fun h => ne_nilI h (B.map (·.1))
        have i1 := getInts_map (A.map (·.2))
        have i2 := getInts_map (B.map (·.1))
        rw [List.map_map] at n1 n2 i1 i2
        cases A with
        | nil => simp at n1; simp [Stp.kind, n1]
        | cons a A =>
          cases B with
          | nil =>
            have n0 : ∀ h, eqP h (.rol []) (.rol []) = some true := fun _ => rfl
            simp [Function.comp_def] at n1
            simp [Stp.kind, n1, n0]
          | cons b B =>
            simp [Function.comp_def] at n1 n2 i1 i2
            simp [Stp.kind, amV, Stp.am, n1, n2, i1, i2]
/-! ### the spans of ascending times -/
theorem gathered_ok {d : Nat} {s : SH} {v : PV} {xs : List Int} (hv : v = .rol (xs.map PV.int)) (hl : xs.length ≤ 1000000) : callF G (d + 1) i__law_gathered [v] s = .ok (.tup ((xs.foldl gathStep []).map P2)) s := by
  subst hv
  obtain ⟨σ', s', h1, h2⟩ := for_items (g := PV.int) (body := turnF G (callF G d) (.name 2) (match B__law_gathered with | .cons _ (.cons (.for_ _ _ b) _) => b | _ => .nil)) (σ := [some (.rol (xs.map PV.int)), some (.ref 0), none]) (s := [.lst []]) xs
    (fun done σ s => ∃ l2, σ = [some (.rol (xs.map PV.int)), some (.ref 0), l2] ∧ s = [.lst ((done.foldl gathStep []).map P2)] ∧ (done.foldl gathStep []).length ≤ done.length)
    ⟨none, rfl, rfl, Nat.le_refl _⟩ (fun done x rest σ s e ⟨l2, hσ, hs, hn⟩ => by
      subst hσ; subst hs
      have hd : done.length ≤ 1000000 := by have := congrArg List.length e; simp at this; omega
      have hn2 : (gathStep (done.foldl gathStep []) x).length ≤ done.length + 1 := Nat.le_trans (gathStep_len _ _) (by omega)
      refine ⟨[some (.rol (xs.map PV.int)), some (.ref 0), some (.int x)], [.lst ((gathStep (done.foldl gathStep []) x).map P2)], .inl ?_, some (.int x), rfl, by simp, by simpa using hn2⟩
      generalize hacc : done.foldl gathStep [] = acc at hn
      have hlt : acc.length < 16777216 := Nat.lt_of_le_of_lt hn (Nat.lt_of_le_of_lt hd (by decide))
      have hne := ne_nil (callF G d) (s := [.lst (acc.map P2)]) (n := 0) (ps := acc) rfl
      rcases List.eq_nil_or_concat acc with rfl | ⟨ys, q, rfl⟩
      · simp at hne
        simp [B__law_gathered, P2, gathStep, hne]
      · have hlt' : ys.length + 1 < 16777216 := by simpa using hlt
        simp [P2] at hne
        by_cases hq : q.2 = x
        · subst hq
          simp [B__law_gathered, P2, gathStep, hne]
        · simp [B__law_gathered, P2, gathStep, hq, hlt', hne])
  obtain ⟨l2, rfl, rfl, _⟩ := h2
  refine call_pure g__law_gathered rfl rfl (by simp) rfl (v := .tup ((xs.foldl gathStep []).map P2)) (s3 := [.lst ((xs.foldl gathStep []).map P2)]) ?_ (fzP (by simp) 16)
  simp only [F__law_gathered]
  simp [B__law_gathered]
  simp [B__law_gathered] at h1
  rw [h1]
  simp

/-! ### one turn of k05 -/
theorem set_concat {X : Type} (t : List X) (x y : X) : (t ++ [x]).set t.length y = t ++ [y] := by
  rw [List.set_append_right _ _ (Nat.le_refl _)]; simp
theorem cov_gap {g x : Int} : ∀ {r : List (Int × Int)} {p : Int × Int}, gapIn g x p r = true → ∃ a ∈ p :: r, ∃ b ∈ r, a.2 ≤ x ∧ x < b.1
  | [], p, h => by simp [gapIn] at h
  | q :: r, p, h => by
    simp only [gapIn, Bool.or_eq_true, Bool.and_eq_true, decide_eq_true_eq] at h
    rcases h with ⟨⟨h1, h2⟩, _⟩ | h
    · exact ⟨p, by simp, q, by simp, h1, h2⟩
    · obtain ⟨a, ha, b, hb, h1, h2⟩ := cov_gap h
      exact ⟨a, List.mem_cons_of_mem _ ha, b, List.mem_cons_of_mem _ hb, h1, h2⟩
theorem cov_bd {ps : List (Int × Int)} {t : Stp} {x : Int} (hS : Sep ps) (hf : ∀ p ∈ ps, Fit5 p) (ht : t.upTo 6) (hc : covB (doneP ps t) x = true) : -27 ≤ x ∧ x < 147 := by
  rw [show covB (doneP ps t) x = covB (t.raw ps) x from cov_join _ _] at hc
  cases t with
  | shift m =>
    have h1 := ht m (by simp [Stp.am])
    simp only [Stp.raw] at hc
    rw [cov_move, List.any_eq_true] at hc
    obtain ⟨p, hp, h⟩ := hc
    have h2 := hf p hp
    unfold Fit5 at h2
    simp at h
    omega
  | widen a b =>
    have h1 := ht a (by simp [Stp.am])
    have h3 := ht b (by simp [Stp.am])
    simp only [Stp.raw] at hc
    rw [cov_move, List.any_eq_true] at hc
    obtain ⟨p, hp, h⟩ := hc
    have h2 := hf p hp
    unfold Fit5 at h2
    simp at h
    omega
  | trim a b =>
    have h1 := ht a (by simp [Stp.am])
    have h3 := ht b (by simp [Stp.am])
    simp only [Stp.raw] at hc
    rw [cov_move, List.any_eq_true] at hc
    obtain ⟨p, hp, h⟩ := hc
    have h2 := hf p hp
    unfold Fit5 at h2
    simp at h
    omega
  | drop m =>
    simp only [Stp.raw] at hc
    obtain ⟨p, hp, h⟩ := covB_iff.mp hc
    have h2 := hf p (List.mem_filter.mp hp).1
    unfold Fit5 at h2
    omega
  | fill g =>
    simp only [Stp.raw] at hc
    cases ps with
    | nil => simp [covB] at hc
    | cons p r =>
      rw [fillP_cons, cov_fillG g x r p hS, Bool.or_eq_true] at hc
      rcases hc with hc | hc
      · obtain ⟨p, hp, h⟩ := covB_iff.mp hc
        have h2 := hf p hp
        unfold Fit5 at h2
        omega
      · obtain ⟨a, ha, b, hb, h1, h2⟩ := cov_gap hc
        have h3 := hf a ha
        have h4 := hf b (List.mem_cons_of_mem _ hb)
        unfold Fit5 at h3 h4
        omega
theorem done_bd {ps : List (Int × Int)} {t : Stp} (hS : Sep ps) (hf : ∀ p ∈ ps, Fit5 p) (ht : t.upTo 6) : ∀ r ∈ doneP ps t, -27 ≤ r.1 ∧ r.2 ≤ 147 := fun r hr => by
  have h1 := (doneP_sep (t := t) hS).2 r hr
  have h2 := cov_bd hS hf ht (covB_iff.mpr ⟨r, hr, Int.le_refl _, h1⟩)
  have h3 := cov_bd hS hf ht (covB_iff.mpr ⟨r, hr, (show r.1 ≤ r.2 - 1 by omega), (show r.2 - 1 < r.2 by omega)⟩)
  omega
theorem join_fit5 {ps : List (Int × Int)} (hf : ∀ p ∈ ps, Fit5 p) : ∀ r ∈ joinP ps, Fit5 r := fun r hr => by
  have h1 := (joinP_isSep fun p hp => (hf p hp).1).2 r hr
  have h2 : ∀ x, r.1 ≤ x → x < r.2 → -20 ≤ x ∧ x < 140 := fun x a b => by
    have hc : covB (joinP ps) x = true := covB_iff.mpr ⟨r, hr, a, b⟩
    rw [cov_join] at hc
    obtain ⟨p, hp, h⟩ := covB_iff.mp hc
    have := hf p hp
    unfold Fit5 at this
    omega
  have h3 := h2 r.1 (Int.le_refl _) h1
  have h4 := h2 (r.2 - 1) (by omega) (by omega)
  exact ⟨h1, by omega, by omega⟩
theorem dat_spans (ps : List (Int × Int)) (hl : ps.length ≤ 1000000) : dat 2 (.tup (ps.map P2)) = true := by
  simp only [dat, List.length_map, Bool.and_eq_true, decide_eq_true_eq, List.all_eq_true]
  refine ⟨hl, fun x hx => ?_⟩
  obtain ⟨p, _, rfl⟩ := List.mem_map.mp hx
  simp [P2, dat]
def rightB : Ss := match B__law_right with | .cons _ (.cons (.for_ _ _ b) _) => b | _ => .nil
theorem turn_ok {n : Nat} {i : PV} {c : Cell} {tl : SH} {l1 l2 l3 l4 l5 l6 l7 l8 l9 : Option PV} (hc : U n c) (hn : n + 100 ≤ 2 ^ 40) :
    ∃ (c' : Cell) (m2 m3 m4 m5 m6 m7 : Option PV), U (n + 100) c' ∧ turnF G (callF G 28) (.name 1) rightB i [some (.ref 0), l1, l2, l3, l4, l5, l6, l7, l8, l9] (c :: tl)
      = .next [some (.ref 0), some i, m2, m3, m4, m5, m6, m7, l8, l9] (c' :: tl) := by
  obtain ⟨qs, c2, b1, b2, b3, b4⟩ := pairs5 (d := 25) (t := tl) hc (by omega)
  have hq1 : qs.length ≤ 1000000 := by omega
  have b5 := fun s => met_ok (d := 27) (s := s) (ps := qs) (.inl rfl) hq1
  generalize hj : joinP qs = ps at b5
  have p1 : Sep ps := by rw [← hj]; exact joinP_isSep fun p hp => (b2 p hp).1
  have j2 : ∀ p ∈ ps, Fit5 p := by rw [← hj]; exact join_fit5 b2
  have p2 : ps.length ≤ 1000000 := by rw [← hj]; exact Nat.le_trans (joinP_len _) hq1
  obtain ⟨t, c3, d1, d2, d3, d4⟩ := stage0 (d := 25) (t := tl) (m := 6) b3 (by omega) (by omega) (by omega)
  have e1 := fun s => mk_row (d := 26) (s := s) (v := .tup (ps.map P2)) (.inl rfl) p2 p1.2
  rw [joinP_sep p1] at e1
  have e2 := fun s => mk_step (d := 25) (s := s) d1
  have e3 := fun s => step_call (d := 25) (s := s) (t := t) p2 (raw_lt (t := t) p1)
  have e4 := fun s x => is_in_ok (d := 27) (s := s) (t := t) (x := x) p1 p2
  have ds : Sep (doneP ps t) := doneP_sep p1
  have dl : (doneP ps t).length ≤ 1000000 := Nat.le_trans (doneP_len t ps) p2
  have db := done_bd (t := t) p1 j2 d2
  change ∀ s, callF G 28 i_Step___call__ [stepV t, rowV ps] s = .ok (rowV (doneP ps t)) s at e3
  have g := gath_sep (doneP ps t) [] (-30) 230 ds (fun r hr => by have := db r hr; omega) (by simp)
  generalize hd : doneP ps t = rs at e3 e4 ds dl g
  have up : upTo (-30) 230 = (upI (-30) 230).map PV.int := by simp only [upTo, upI, List.map_map]; rfl
  have ul : (upI (-30) 230).length = 230 := by simp [upI]
  have e5 := fun s => comp_filter (g := PV.int) (f := fun x => if covB rs x = true then some (PV.int x) else none) (s := s) (xs := upI (-30) 230) (turn := turnC G (callF G 28) (.v 9) (.name 9) (.e (.call i__law_is_in (.cons (.v 2) (.cons (.v 3) (.cons (.v 4) (.cons (.v 9) .nil)))) .nil [])) [some (.ref 0), some i, some (.tup (ps.map P2)), some (.str t.kind), some (amV t), some (rowV ps), some (rowV rs), l7, none, none]) (fun x _ => by
    simp only [Nat.reduceAdd] at e4
    unfold turnC
    by_cases hx : covB rs x = true <;> simp [e4, hx]) (by rw [ul]; omega)
  rw [fm_filter, ← up, ul] at e5
  generalize hX : (upI (-30) 230).filter (covB rs) = X at e5 g
  have xl : X.length ≤ 1000000 := by
    rw [← hX]
    refine Nat.le_trans (List.length_filter_le _ _) ?_
    rw [ul]; omega
  have e6 := fun s => gathered_ok (d := 27) (s := s) (xs := X) rfl xl
  rw [g, List.nil_append] at e6
  have h6 := fun s ps => row_spans (d := 27) (s := s) (ps := ps)
  have h7 := fun s => same_refl 3 24 (.rol [.tup (rs.map P2), .tup (ps.map P2)]) s (by
    have e1 := dat_spans ps p2
    have e2 := dat_spans rs dl
    simp only [dat] at e1 e2 ⊢
    simp [e1, e2]
    simp at e1 e2
    exact ⟨e2, e1⟩)
  have hl30 : lim63 (-30) = true := by decide
  have hm : ∀ s, methFind G a___call__ (stepV t) s = some i_Step___call__ := fun _ => rfl
  refine ⟨c3, some (.tup (ps.map P2)), some (.str t.kind), some (amV t), some (rowV ps), some (rowV rs), some (.rol (X.map PV.int)), d3.mono (by omega), ?_⟩
  simp only [Nat.reduceAdd] at b4 b5 d4 e1 e2 e3 e6 h6 h7
  unfold turnF
  simp only [asg_name, List.set_cons_succ, List.set_cons_zero]
  simp [rowV] at e1 e3 e5 h6
  simp [rightB, B__law_right, b4, b5, d4, e1, e2, hm, hl30, e3, e5, e6, h6, h7, rowV, stgV]

theorem right_gen {call : Nat → List PV → SH → R PV} {c cc : Cell} {l1 l2 l3 l4 l5 l6 l7 l8 l9 : Option PV} (h : ∀ s, call i__law_by_hand_right [] s = .ok (.bl true) s)
    (h1 : forS (.items (upTo 0 10)) (turnF G call (.name 1) rightB) (10 + 1) 0 [some (.ref 0), none, none, none, none, none, none, none, none, none] [c] = .next [some (.ref 0), l1, l2, l3, l4, l5, l6, l7, l8, l9] [cc]) :
    exs G call F__law_right.body (some (PV.ref 0) :: (List.map some [] ++ List.replicate (10 - 1) none)) [c] = .ret (.bl true) [cc] := by
  simp only [F__law_right]
  simp [rightB, B__law_right] at h1
  simp [B__law_right, h, h1]
theorem right_ok {u : Nat} {s : SH} {c : Cell} (hu : s[u]? = some c) (hc : U 0 c) : ∃ c', callF G 29 i__law_right [.ref u] s = .ok (.bl true) (s.set u c') := by
  obtain ⟨σ', s', h1, h2⟩ := for_range (body := turnF G (callF G 28) (.name 1) rightB) (σ := [some (.ref 0), none, none, none, none, none, none, none, none, none]) (s := [c]) 0 10
    (fun i σ s => ∃ l1 l2 l3 l4 l5 l6 l7 l8 l9 cc, σ = [some (.ref 0), l1, l2, l3, l4, l5, l6, l7, l8, l9] ∧ s = [cc] ∧ U (100 * i) cc) ⟨_, _, _, _, _, _, _, _, _, c, rfl, rfl, hc⟩ (fun i σ s hi ⟨l1, l2, l3, l4, l5, l6, l7, l8, l9, cc, hσ, hs, hU⟩ => by
      subst hσ; subst hs
      obtain ⟨c', m2, m3, m4, m5, m6, m7, k1, k2⟩ := turn_ok (n := 100 * i) (i := .int (0 + (i : Int))) (c := cc) (tl := []) (l1 := l1) (l2 := l2) (l3 := l3) (l4 := l4) (l5 := l5) (l6 := l6) (l7 := l7) (l8 := l8) (l9 := l9) hU (by omega)
      exact ⟨_, _, .inl k2, some (.int (0 + (i : Int))), m2, m3, m4, m5, m6, m7, l8, l9, c', rfl, rfl, k1.mono (by omega)⟩)
  obtain ⟨l1, l2, l3, l4, l5, l6, l7, l8, l9, cc, rfl, rfl, hU⟩ := h2
  have := call_mu (s := s) (n := u) (d := 28) (us := []) (v := .bl true) (s3 := [cc]) (w := .bl true) (c3 := cc) g__law_right rfl rfl hu hc.pure rfl rfl ?_ rfl hU.pure rfl
  · exact ⟨cc, this⟩
  · exact right_gen (fun _ => hand_ok) h1

theorem endg_turn {call : Nat → List PV → SH → R PV} {ns xs : List Int} {k : Nat} {s : SH} {c c' : Cell} (hb : call i__law_box [.rol (xs.map PV.int), .int k] s = .ok (.ref s.length) (s ++ [c]))
    (hr : call i__law_right [.ref s.length] (s ++ [c]) = .ok (.bl true) ((s ++ [c]).set s.length c')) :
    turnC G call (.call i__law_right (.cons (.call i__law_box (.cons (.v 1) (.cons (.v 3) .nil)) .nil []) .nil) .nil []) (.name 3) .yes [some (.scr (ns.map PV.int)), some (.rol (xs.map PV.int)), none, none] (PV.int (0 + (k : Int))) s = .ok (some (.bl true)) (s ++ [c']) := by
  have e : (s ++ [c]).set s.length c' = s ++ [c'] := by rw [List.set_append_right _ _ (Nat.le_refl _)]; simp
  rw [e] at hr
  simp [hb, hr]
theorem endg_fin {call : Nat → List PV → SH → R PV} {ns xs : List Int} {s' : SH} (h3 : xs.length ≤ 3) (hc : call i__law_cells [.scr (ns.map PV.int), .int 3] [] = .ok (.rol (xs.map PV.int)) [])
    (h1 : compS (.items ((List.range xs.length).map fun (k : Nat) => PV.int (0 + (k : Int)))) (turnC G call (.call i__law_right (.cons (.call i__law_box (.cons (.v 1) (.cons (.v 3) .nil)) .nil []) .nil) .nil []) (.name 3) .yes [some (.scr (ns.map PV.int)), some (.rol (xs.map PV.int)), none, none]) ((List.range xs.length).length + 1) 0 [] [] = .ok ((List.range xs.length).map fun _ => PV.bl true) s') :
    exs G call F_law.body ([PV.scr (ns.map PV.int)].map some ++ List.replicate (F_law.ns - F_law.np) none) [] = .ret (.bl true) s' := by
  have lm : lim63 (xs.length : Int) = true := lim63_ok (by omega) (by omega)
  have hup : upTo 0 xs.length = (List.range xs.length).map fun (k : Nat) => PV.int (0 + (k : Int)) := rfl
  simp only [List.length_range] at h1
  rw [← hup] at h1
  have hall : ∀ l : List Nat, getBools (l.map fun _ => PV.bl true) = some (l.map fun _ => true) := fun l => getBools_bl (fun _ => true) l
  simp [-lim63_ok, F_law, B_law, hc, lm, h1, hall, -List.map_const]
theorem law_ok (ns : List Int) (hl : ns.length ≤ 63) : ∃ s, callF G 30 i_law [.scr (ns.map .int)] [] = .ok (.bl true) s := by
  obtain ⟨xs, h0, h3, hc⟩ := cells_ok (d := 28) (tp := 3) (s := []) (by decide) (by decide) hl
  refine ⟨[], ?_⟩
  have hp : ∀ l : List Int, PV.pureL (l.map PV.int) = true := fun l => pureL_map fun _ _ => rfl
  obtain ⟨acc, s', h1, h2⟩ := comp_items (g := fun (k : Nat) => PV.int (0 + (k : Int))) (turn := turnC G (callF G 29) (.call i__law_right (.cons (.call i__law_box (.cons (.v 1) (.cons (.v 3) .nil)) .nil []) .nil) .nil []) (.name 3) .yes [some (.scr (ns.map PV.int)), some (.rol (xs.map PV.int)), none, none]) (s := []) (List.range xs.length)
    (fun done acc s => acc = done.map fun _ => PV.bl true) rfl (fun done k rest acc s e ha => by
      subst ha
      have hk : k < xs.length := by
        have : k ∈ List.range xs.length := by rw [e]; simp
        simpa using this
      have hd : done.length < xs.length := by have := congrArg List.length e; simp at this; omega
      obtain ⟨c, hU, hb⟩ := box_ok (d := 28) (s := s) (xs := xs) (k := k) (by omega) (by omega)
      obtain ⟨c', hr⟩ := right_ok (u := s.length) (s := s ++ [c]) (by simp) hU
      simp only [Nat.reduceAdd] at hb
      exact ⟨some (.bl true), s ++ [c'], endg_turn hb hr, by simp; omega, by simp⟩)
  subst h2
  simp only [Nat.reduceAdd, Int.cast_ofNat_Int] at hc
  exact call_pure (d := 29) g_law rfl rfl (by simp [hp]) rfl (v := .bl true) (s3 := s') (endg_fin h3 hc h1) rfl

end LK
end

open PyProof.Rows PySem.Calls PySem.W PySem
set_option maxRecDepth 100000 in
set_option maxHeartbeats 0 in
theorem PySem.Challenge.cw_cleanspans_k05_what_one_step_makes_holds : PySem.Challenge.rw_cleanspans_k05_what_one_step_makes.Holds := by
  w_on; o_law
  refine HandSHeadRun.head_any (r := LK.Rw) (q := view LK.Rw.prog [39]) (H := LK.hk) (ob := LK.ob) (M := 8000) (loose := LK.loose) (d := HandSHeadRun.topDef LK.Rw.prog 39) (kwd := []) LK.ob_eq
    (by kernel_rfl) (fun s => by kernel_rfl) LK.run (by kernel_rfl) (by kernel_rfl) (by kernel_rfl) (by rfl) (by first | assumption | decide +kernel) (by decide +kernel) ⟨rfl, rfl, rfl, rfl, rfl, by decide +kernel⟩ ?hw ?hc
  case hw => w_witness2
  case hc => exact CS.walk_tab (T := LK.T) (l := PySem.Challenge.rw_cleanspans_k05_what_one_step_makes) (dd := 30) (law := LK.i_law) (F := LK.F_law) (x := "_law_script") rfl (by kernel_rfl) ⟨rfl, by decide, by decide⟩ LK.tabOk rfl rfl rfl (by kernel_rfl) LK.bnd LK.bL fun ns hl _ => LK.law_ok ns hl

