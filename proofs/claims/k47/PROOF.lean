import PyProof.Rows.All
import Wide.All
import OpenK.AllK
import Wide.FinOn
import HandS.ForMost
import HandS.ForExc
import HandS.Deep
import HandS.IsInst
import HandS.TupAny
import HandS.More
import HandS.Style
import HandS.Small
import HandS.Zip
import HandS.Conv
import KE.SortData
import PyProof.ReprReads
import KE.GoesEnum
import KE.GoesMore
import HandS.ExcOwn
import HandS.WordsExc
import HandS.EndBits
import HandS.Flow
import HandS.TryOnly
import KE.BitLaws
import PyProof.ReprLen
import PyProof.FitsInt
import PyProof.Rows.ReprOcc
import PySem.Challenge.RW_unlikeplace_k47_flipped
set_option Elab.async false
set_option linter.all false
set_option maxRecDepth 100000
set_option maxHeartbeats 4000000
/-! The small interpreter: values, heap, syntax, evaluation. -/
namespace MP
open PySem L2

/-! ### values -/
inductive D where
  | non | bl (b : Bool) | int (i : Int) | str (x : List Nat)
  | tup (ds : List D) | lst (ds : List D) | dic (ks vs : List D) | ref (a : Nat) | scr (ns : List Int)
inductive Cell where
  | lst (ds : List D) | dic (ks vs : List D) | dead
abbrev Hea := List Cell
abbrev Env := List (Option D)
instance : Inhabited D := ⟨.non⟩

/-- an address counts from the far end: a new cell is put in front and gets the number of the cells behind it -/
def get {α : Type} : List α → Nat → Option α
  | [], _ => none
  | c :: h, a => if a = h.length then some c else get h a
def put {α : Type} : List α → Nat → α → List α
  | [], _, _ => []
  | c :: h, a, x => if a = h.length then x :: h else c :: put h a x
def trunc {α : Type} (n : Nat) (h : List α) : List α := h.drop (h.length - n)

mutual
def below (n : Nat) : D → Bool
  | .ref a => decide (a < n)
  | .tup ds => belows n ds
  | .lst ds => belows n ds
  | .dic ks vs => belows n ks && belows n vs
  | .non => true | .bl _ => true | .int _ => true | .str _ => true | .scr _ => true
def belows (n : Nat) : List D → Bool
  | [] => true
  | d :: ds => below n d && belows n ds
end
abbrev closed (d : D) : Bool := below 0 d
abbrev closeds (ds : List D) : Bool := belows 0 ds

def strOfL (x : List Nat) : Str := ⟨x.toArray⟩
mutual
def toPy : D → PyData
  | .non => .none
  | .bl b => .bool b
  | .int i => .int i
  | .str x => .str (strOfL x)
  | .tup ds => .tuple (toPys ds)
  | .lst ds => .list (toPys ds)
  | .dic _ _ => .dict []
  | .ref _ => .dict []
  | .scr ns => .list (ns.map .int)
def toPys : List D → List PyData
  | [] => []
  | d :: ds => toPy d :: toPys ds
end
def eqv (a b : D) : Bool := PyData.eqv (toPy a) (toPy b)
def lay (a : D) : Bool := (toPy a).canLay0
def dep (a : D) : Nat := (toPy a).depth

/-- refs from n on taken as what stands in their cells -/
def frz : Nat → Hea → Nat → D → Option D
  | 0, _, _, _ => none
  | k + 1, h, n, .ref a => if a < n then some (.ref a) else match get h a with
    | some (.lst ds) => (ds.mapM (frz k h n)).map .lst
    | some (.dic ks vs) => (ks.mapM (frz k h n)).bind fun ks => (vs.mapM (frz k h n)).map fun vs => .dic ks vs
    | _ => none
  | k + 1, h, n, .tup ds => (ds.mapM (frz k h n)).map .tup
  | k + 1, h, n, .lst ds => (ds.mapM (frz k h n)).map .lst
  | k + 1, h, n, .dic ks vs => (ks.mapM (frz k h n)).bind fun ks => (vs.mapM (frz k h n)).map fun vs => .dic ks vs
  | _ + 1, _, _, d => some d
def frzN (h : Hea) (n : Nat) (d : D) : Option D := if below n d then some d else frz 40 h n d
/-- all refs taken as what stands there now -/
def rsv (h : Hea) (d : D) : Option D := frzN h 0 d

/-! ### results -/
structure Xc where
  c : Nat
  arg : Option D
inductive Fl where
  | nx (ρ : Env) | rt (d : D) | bk (ρ : Env) | ct (ρ : Env) | xc (x : Xc) (ρ : Env)
inductive R (α : Type) where
  | ok (a : α) (h : Hea)
  | ex (x : Xc) (h : Hea)
  | stuck
def R.bnd {α β : Type} : R α → (α → Hea → R β) → R β
  | .ok a h, f => f a h
  | .ex x h, _ => .ex x h
  | .stuck, _ => .stuck
/-- in a statement: what is raised is told with the slots -/
def R.bns {α : Type} : R α → Env → (α → Hea → R Fl) → R Fl
  | .ok a h, _, f => f a h
  | .ex x h, ρ, _ => .ok (.xc x ρ) h
  | .stuck, _, _ => .stuck
/-- where nothing may be raised -/
def R.nox {α : Type} : R α → R α
  | .ok a h => .ok a h
  | _ => .stuck

/-! ### syntax -/
inductive BOp where | add | sub | mul | fdiv | mod | pow | shl | shr | band | bor | bxor
inductive COp where | eq | ne | lt | le | gt | ge | isN | notN | isB | notB | inn | notin
inductive Ty where | int | bool | str | tuple | list | dict
inductive Blt where | len | abs | max | min | int | str | tuple | list | sum | any | all | repr | sorted | isi (ts : List Ty)
inductive Mth where | append | clear | pop | extend | join | insert | reverse | endswith
inductive Tg where
  | one (i : Nat) | many (is : List Nat)

mutual
inductive Ex where
  | cst (d : D)
  | nam (i : Nat)
  | bin (n : Bool) (o : BOp) (a b : Ex)
  | neg (a : Ex)
  | cmp (o : COp) (a b : Ex)
  | chn (o o' : COp) (a b c : Ex)
  | land (a b : Ex)
  | lor (a b : Ex)
  | lnot (a : Ex)
  | ite (c a b : Ex)
  | tup (es : Exs)
  | lst (n : Bool) (es : Exs)
  | dic (n : Bool) (kvs : Exs)
  | idx (a b : Ex)
  | slc (n : Bool) (a : Ex) (lo hi : OEx)
  | cal (n : Bool) (g : Nat) (es : Exs)
  | blt (n : Bool) (b : Blt) (es : Exs)
  | mth (n : Bool) (m : Mth) (r : Ex) (es : Exs)
  | lc (n : Bool) (el : Ex) (tg : Tg) (it : It) (c : OEx) (own : List Nat)
  | glb (i : Int)
  | trg (a : Ex)
inductive Exs where
  | nil | cons (e : Ex) (es : Exs)
inductive OEx where
  | none | some (e : Ex)
inductive It where
  | val (e : Ex) | rng (a : Ex) | rng2 (a b : Ex) | zip (a b : Ex) | enu (a : Ex)
end

inductive Sm where
  | exp (e : Ex)
  | set (i : Nat) (e : Ex)
  | unp (is : List Nat) (e : Ex)
  | sti (o i e : Ex)
  | ifs (c : Ex) (a b : List Sm)
  | whl (c : Ex) (b : List Sm)
  | for_ (tg : Tg) (it : It) (b : List Sm)
  | ret (e : Ex)
  | rtn
  | brk
  | cnt
  | stk

/-! ### operations on values -/
/-- the longest list -/
def SL : Nat := 16777216
def M64 : Int := 2 ^ 64
def small (i : Int) : Bool := decide (-M64 < i) && decide (i < M64)
def tru (h : Hea) : D → Option Bool
  | .non => some false
  | .bl b => some b
  | .int i => some (i != 0)
  | .str x => if x.length ≤ SL then some (!x.isEmpty) else none
  | .tup ds => some (!ds.isEmpty)
  | .lst ds => some (!ds.isEmpty)
  | .ref a => match get h a with
    | some (.lst ds) => some (!ds.isEmpty)
    | _ => none
  | .dic _ _ => none
  | .scr ns => some (!ns.isEmpty)
/-- what a list or a tuple holds -/
def seqV (h : Hea) : D → Option (List D)
  | .tup ds => some ds
  | .lst ds => some ds
  | .scr ns => some (ns.map .int)
  | .ref a => match get h a with
    | some (.lst ds) => some ds
    | _ => none
  | _ => none
/-- a list, not the script -/
def lstW (h : Hea) : D → Option (List D)
  | .lst ds => some ds
  | .ref a => match get h a with
    | some (.lst ds) => some ds
    | _ => none
  | _ => none
def lstV (h : Hea) : D → Option (List D)
  | .lst ds => some ds
  | .scr ns => some (ns.map .int)
  | .ref a => match get h a with
    | some (.lst ds) => some ds
    | _ => none
  | _ => none
def rep {α : Type} (k : Nat) (xs : List α) : List α := (List.replicate k xs).flatten
def i2 (f : Int → Int → Option D) : D → D → Option D
  | .int i, .int j => f i j
  | _, _ => none
def bAdd (h : Hea) (a b : D) : Option D :=
  match a, b with
  | .int i, .int j => some (.int (i + j))
  | .str x, .str y => if x.length + y.length ≤ SL then some (.str (x ++ y)) else none
  | .tup x, .tup y => if x.length + y.length ≤ SL then some (.tup (x ++ y)) else none
  | a, b => match lstW h a, lstW h b with
    | some x, some y => if x.length + y.length ≤ SL then some (.lst (x ++ y)) else none
    | _, _ => none
def bMul (h : Hea) (a b : D) : Option D :=
  match a, b with
  | .int i, .int j => if small i || small j then some (.int (i * j)) else none
  | .str x, .int k => if k = 0 then some (.str []) else if k = 1 then some (.str x) else none
  | a, .int k => match lstW h a with
    | some x => if -(2 ^ 63) ≤ k ∧ k < 2 ^ 63 ∧ x.length * k.toNat ≤ SL then some (.lst (rep k.toNat x)) else none
    | none => none
  | _, _ => none
def bop (o : BOp) (h : Hea) (a b : D) : Option D :=
  match o with
  | .add => bAdd h a b
  | .mul => bMul h a b
  | .sub => i2 (fun i j => some (.int (i - j))) a b
  | .fdiv => i2 (fun i j => if j ≠ 0 ∧ j.natAbs < 1073741824 then some (.int (i.fdiv j)) else none) a b
  | .mod => i2 (fun i j => if j ≠ 0 then some (.int (i.fmod j)) else none) a b
  | .pow => i2 (fun i j => if 0 ≤ j ∧ j ≤ 1000000 ∧ i.natAbs < 2 ^ 64 then some (.int (i ^ j.toNat)) else none) a b
  | .shl => i2 (fun i j => if 0 ≤ j ∧ j ≤ 1000000 ∧ i.natAbs < 2 ^ 64 then some (.int (i * 2 ^ j.toNat)) else none) a b
  | .shr => i2 (fun i j => if 0 ≤ j then some (.int (i / 2 ^ j.toNat)) else none) a b
  | .band => i2 (fun i j => some (.int (Builtin.bitAnd i j))) a b
  | .bor => i2 (fun i j => some (.int (Builtin.bitOr i j))) a b
  | .bxor => i2 (fun i j => some (.int (Builtin.bitXor i j))) a b
def eqOk (a b : D) : Bool := lay a && lay b && (decide (dep a ≤ 64) || decide (dep b ≤ 64))
def eqH (h : Hea) (a b : D) : Option Bool :=
  match rsv h a, rsv h b with
  | some x, some y => if eqOk x y then some (eqv x y) else none
  | _, _ => none
def inH (h : Hea) (a b : D) : Option Bool :=
  match rsv h a, rsv h b with
  | some x, some (.tup ys) => if lay x && lay (.tup ys) && decide (dep x ≤ 64) then some (ys.any fun y => eqv y x) else none
  | some x, some (.lst ys) => if lay x && lay (.lst ys) && decide (dep x ≤ 64) then some (ys.any fun y => eqv y x) else none
  | _, _ => none
def intsL : List D → Option (List Int)
  | [] => some []
  | .int i :: r => (intsL r).map (i :: ·)
  | _ :: _ => none
def bls : List D → Option (List Bool)
  | [] => some []
  | .bl b :: r => (bls r).map (b :: ·)
  | _ :: _ => none
def strsL : List D → Option (List (List Nat))
  | [] => some []
  | .str b :: r => (strsL r).map (b :: ·)
  | _ :: _ => none
/-- order of lists of intsL -/
def lexLt : List Int → List Int → Bool
  | [], [] => false
  | [], _ :: _ => true
  | _ :: _, [] => false
  | x :: xs, y :: ys => if x = y then lexLt xs ys else decide (x < y)
def ltT (a b : D) : Option Bool :=
  match a, b with
  | .int i, .int j => some (decide (i < j))
  | .bl i, .bl j => some (!i && j)
  | .tup x, .tup y => match intsL x, intsL y with
    | some x, some y => some (lexLt x y)
    | _, _ => none
  | _, _ => none
def isNon : D → Bool
  | .non => true
  | _ => false
def cop (o : COp) (h : Hea) (a b : D) : Option D :=
  match o with
  | .eq => (eqH h a b).map .bl
  | .ne => (eqH h a b).map fun c => .bl !c
  | .lt => (ltT a b).map .bl
  | .gt => match a, b with | .int i, .int j => some (.bl (decide (j < i))) | _, _ => none
  | .le => match a, b with | .int i, .int j => some (.bl (decide (i ≤ j))) | _, _ => none
  | .ge => match a, b with | .int i, .int j => some (.bl (decide (j ≤ i))) | _, _ => none
  | .isN => match b with | .non => some (.bl (isNon a)) | _ => none
  | .notN => match b with | .non => some (.bl (!isNon a)) | _ => none
  | .isB => match a, b with | .bl a, .bl b => some (.bl (decide (a = b))) | _, _ => none
  | .notB => match a, b with | .bl a, .bl b => some (.bl (!decide (a = b))) | _, _ => none
  | .inn => (inH h a b).map .bl
  | .notin => (inH h a b).map fun c => .bl !c
/-- a place, from the end where it is negative -/
def plc (n : Nat) (i : Int) : Option Nat := if 0 ≤ i then (if i < n then some i.toNat else none) else if -(n : Int) ≤ i then some (i + n).toNat else none
def keyEq : D → D → Bool
  | .int i, .int j => decide (i = j)
  | .str x, .str y => decide (x = y)
  | _, _ => false
def isKey : D → Bool
  | .int _ => true
  | .str _ => true
  | _ => false
def dGet (k : D) : List D → List D → Option D
  | k' :: ks, v :: vs => if keyEq k' k then some v else dGet k ks vs
  | _, _ => none
def ixH (h : Hea) (a b : D) : Option D :=
  match a, b with
  | .str x, .int i => if x.length ≤ SL then (plc x.length i).bind fun j => x[j]?.map fun c => .str [c] else none
  | .dic ks vs, k => if isKey k then dGet k ks vs else none
  | .ref a, k => match get h a with
    | some (.lst ds) => match k with | .int i => (plc ds.length i).bind fun j => ds[j]? | _ => none
    | some (.dic ks vs) => if isKey k then dGet k ks vs else none
    | _ => none
  | .tup ds, .int i => (plc ds.length i).bind fun j => ds[j]?
  | .lst ds, .int i => (plc ds.length i).bind fun j => ds[j]?
  | .scr ns, .int i => (plc ns.length i).bind fun j => ns[j]?.map .int
  | _, _ => none
/-- where a slice begins, ends -/
def sIx (n d : Nat) : Option Int → Nat
  | none => d
  | some v => if v < 0 then (max (v + n) 0).toNat else min v.toNat n
def cut {α : Type} (xs : List α) (lo hi : Option Int) : List α := (xs.drop (sIx xs.length 0 lo)).take (sIx xs.length xs.length hi - sIx xs.length 0 lo)
def slH (h : Hea) (a : D) (lo hi : Option Int) : Option D :=
  match a with
  | .tup ds => some (.tup (cut ds lo hi))
  | .str x => if x.length ≤ SL then some (.str (cut x lo hi)) else none
  | a => (lstV h a).map fun ds => .lst (cut ds lo hi)
def tyOf (h : Hea) : D → Option Ty
  | .non => none
  | .bl _ => some .bool
  | .int _ => some .int
  | .str _ => some .str
  | .tup _ => some .tuple
  | .lst _ => some .list
  | .scr _ => some .list
  | .dic _ _ => some .dict
  | .ref a => match get h a with
    | some (.lst _) => some .list
    | some (.dic _ _) => some .dict
    | _ => none
def isTy : Ty → Ty → Bool
  | .int, .int => true | .bool, .bool => true | .bool, .int => true | .str, .str => true
  | .tuple, .tuple => true | .list, .list => true | .dict, .dict => true | _, _ => false
def isiH (h : Hea) (d : D) (ts : List Ty) : Option Bool :=
  match d with
  | .non => some false
  | d => (tyOf h d).map fun t => ts.any (isTy t)
def maxI : List Int → Option Int
  | [] => none
  | [i] => some i
  | i :: r => (maxI r).map fun j => if j > i then j else i
def minI : List Int → Option Int
  | [] => none
  | [i] => some i
  | i :: r => (minI r).map fun j => if j < i then j else i
def one1 (f : D → Option D) : List D → Option D
  | [d] => f d
  | _ => none
def lenH (h : Hea) (d : D) : Option D :=
  match d with
  | .str x => if x.length ≤ SL then some (.int x.length) else none
  | d => (seqV h d).map fun ds => .int ds.length
def absH : D → Option D
  | .int i => some (.int (if i < 0 then -i else i))
  | _ => none
def intH : D → Option D
  | .int i => some (.int i)
  | .bl k => some (.int (if k then 1 else 0))
  | _ => none
def maxH (h : Hea) (xs : List D) : Option D :=
  match xs with
  | [.int i, .int j] => some (.int (if j > i then j else i))
  | [d] => ((lstV h d).bind intsL).bind fun ns => (maxI ns).map .int
  | _ => none
def minH (h : Hea) (xs : List D) : Option D :=
  match xs with
  | [.int i, .int j] => some (.int (if j < i then j else i))
  | [d] => ((lstV h d).bind intsL).bind fun ns => (minI ns).map .int
  | _ => none
def intStr (i : Int) : List Nat := (Str.ofString (toString i)).cps.toList
def strH : D → Option D
  | .int i => if i.natAbs.log2 < 1920 then some (.str (intStr i)) else none
  | _ => none
/-- repr: a value's text -/
def shw (d : D) : List Nat := (toPy d).shown.cps.toList
def reprOk (d : D) : Bool := lay d && (toPy d).showable && !(toPy d).hasDict && decide (dep d ≤ 60) && decide ((toPy d).shown.length ≤ SL)
def reprH (h : Hea) (d : D) : Option D := (rsv h d).bind fun x => if reprOk x then some (.str (shw x)) else none
/-- sorted: items without refs that can be compared -/
def srtLe (a b : D) : Bool := PySem.W.dataLe false toPy a b
def isTup1 : D → Bool
  | .tup (_ :: _) => true
  | _ => false
def noTup1 : D → Bool
  | .tup _ => false
  | .non => false
  | .ref _ => false
  | _ => true
def sortOk (ds : List D) : Bool := ds.all (fun d => closed d && lay d && decide (dep d ≤ 20)) && (ds.all fun d => ds.all fun e => PySem.W.alike (toPy d) (toPy e)) && (ds.all isTup1 || ds.all noTup1)
def sortH (h : Hea) (d : D) : Option D := (lstV h d).bind fun ds => if sortOk ds then some (.lst (ds.mergeSort srtLe)) else none
def bltH (b : Blt) (h : Hea) (xs : List D) : Option D :=
  match b with
  | .len => one1 (lenH h) xs
  | .abs => one1 absH xs
  | .max => maxH h xs
  | .min => minH h xs
  | .int => one1 intH xs
  | .str => one1 strH xs
  | .tuple => one1 (fun d => (seqV h d).map .tup) xs
  | .list => one1 (fun d => (seqV h d).map .lst) xs
  | .any => one1 (fun d => ((lstV h d).bind bls).map fun bs => .bl (bs.any id)) xs
  | .all => one1 (fun d => ((lstV h d).bind bls).map fun bs => .bl (bs.all id)) xs
  | .sum => one1 (fun d => ((seqV h d).bind intsL).map fun ns => .int ns.sum) xs
  | .repr => one1 (reprH h) xs
  | .sorted => one1 (sortH h) xs
  | .isi ts => one1 (fun d => (isiH h d ts).map .bl) xs

/-- a displayed dict: its keys and values by turns -/
def nodupK : List D → Bool
  | [] => true
  | k :: ks => isKey k && !(ks.any (keyEq k)) && nodupK ks
def evens : List D → List D
  | k :: _ :: r => k :: evens r
  | _ => []
def odds : List D → List D
  | _ :: v :: r => v :: odds r
  | _ => []
def disp (ds : List D) : Option D := if nodupK (evens ds) && decide (ds.length ≤ 30) && decide (ds.length % 2 = 0) then some (.dic (evens ds) (odds ds)) else none
/-- a new list or dict in a cell of its own -/
def alloc (d : D) (h : Hea) : R D :=
  match d with
  | .lst ds => .ok (.ref h.length) (.lst ds :: h)
  | .dic ks vs => .ok (.ref h.length) (.dic ks vs :: h)
  | d => .ok d h
def mk (n : Bool) (o : Option D) (h : Hea) : R D :=
  match o with
  | none => .stuck
  | some d => if n then alloc d h else .ok d h
def lift {α : Type} (o : Option α) (h : Hea) : R α :=
  match o with
  | none => .stuck
  | some d => .ok d h
/-- a list's cell read and written -/
def onL (h : Hea) (r : D) (f : Nat → List D → Option (D × List D)) : R D :=
  match r with
  | .ref a => match get h a with
    | some (.lst ds) => match f a ds with
      | some (d, ds') => .ok d (put h a (.lst ds'))
      | none => .stuck
    | _ => .stuck
  | _ => .stuck
def appH (h : Hea) (r : D) : List D → R D
  | [d] => onL h r fun a ds => if ds.length < SL ∧ below a d then some (.non, ds ++ [d]) else none
  | _ => .stuck
def clrH (h : Hea) (r : D) : List D → R D
  | [] => onL h r fun _ _ => some (.non, [])
  | _ => .stuck
def revH (h : Hea) (r : D) : List D → R D
  | [] => onL h r fun _ ds => some (.non, ds.reverse)
  | _ => .stuck
def popH (h : Hea) (r : D) : List D → R D
  | [] => onL h r fun _ ds => ds[ds.length - 1]?.map fun d => (d, ds.dropLast)
  | [.int i] => onL h r fun _ ds => if -(2 ^ 63) ≤ i ∧ i < 2 ^ 63 then (plc ds.length i).bind fun j => ds[j]?.map fun d => (d, ds.eraseIdx j) else none
  | _ => .stuck
def extH (h : Hea) (r : D) : List D → R D
  | [d] => match lstW h d with
    | some es => onL h r fun a ds => if ds.length + es.length ≤ SL ∧ belows a es then some (.non, ds ++ es) else none
    | none => .stuck
  | _ => .stuck
def insH (h : Hea) (r : D) : List D → R D
  | [.int i, d] => onL h r fun a ds => if ds.length < SL ∧ 0 ≤ i ∧ i < 2 ^ 63 ∧ below a d then some (.non, ds.take i.toNat ++ [d] ++ ds.drop i.toNat) else none
  | _ => .stuck
def joinL (S : List Nat) : List (List Nat) → List Nat
  | [] => []
  | [p] => p
  | p :: q :: r => p ++ (S ++ joinL S (q :: r))
def joinH (h : Hea) (r : D) : List D → R D
  | [d] => match r, (seqV h d).bind strsL with
    | .str sep, some xs => if (xs.map (·.length)).sum + xs.length * sep.length ≤ SL then .ok (.str (joinL sep xs)) h else .stuck
    | _, _ => .stuck
  | _ => .stuck
def endsL (x y : List Nat) : Bool := decide (y.length ≤ x.length) && ((x.drop (x.length - y.length)).take y.length == y)
def endH (h : Hea) (r : D) : List D → R D
  | [.str y] => match r with
    | .str x => .ok (.bl (endsL x y)) h
    | _ => .stuck
  | _ => .stuck
def mthH (m : Mth) (h : Hea) (r : D) (xs : List D) : R D :=
  match m with
  | .append => appH h r xs
  | .clear => clrH h r xs
  | .pop => popH h r xs
  | .extend => extH h r xs
  | .insert => insH h r xs
  | .reverse => revH h r xs
  | .join => joinH h r xs
  | .endswith => endH h r xs
/-- a dict's key written: where it stands, else at the end -/
def dRep (k v : D) : List D → List D → List D
  | k' :: ks, w :: ws => (if keyEq k' k then v else w) :: dRep k v ks ws
  | _, _ => []
def dPutV (k v : D) (ks ds : List D) : List D := if ks.any (fun k' => keyEq k' k) then dRep k v ks ds else ds ++ [v]
def dPutK (k : D) (ks : List D) : List D := if ks.any (fun k' => keyEq k' k) then ks else ks ++ [k]
def stiH (h : Hea) (o i d : D) : Option Hea :=
  match o with
  | .ref a => match get h a with
    | some (.lst ds) => match i with
      | .int i => match plc ds.length i with
        | some j => if below a d then some (put h a (.lst (ds.set j d))) else none
        | none => none
      | _ => none
    | some (.dic ks vs) => if isKey i && below a d && decide (ks.length < SL) then some (put h a (.dic (dPutK i ks) (dPutV i d ks vs))) else none
    | _ => none
  | _ => none

def setAll : List Nat → List D → Env → Option Env
  | [], [], ρ => some ρ
  | i :: is, d :: ds, ρ => setAll is ds (ρ.set i (some d))
  | _, _, _ => none
def bindT (h : Hea) (t : Tg) (d : D) (ρ : Env) : Option Env :=
  match t with
  | .one i => some (ρ.set i (some d))
  | .many is => match d with
    | .tup ds => setAll is ds ρ
    | _ => none
def wipeE (ρ : Env) : List Nat → Env
  | [] => ρ
  | v :: vs => (wipeE ρ vs).set v none

/-- what a loop walks, item by item: told ahead, or read in its cell -/
inductive Itm where
  | v (d : D) | at (a i : Nat)
def itm (h : Hea) : Itm → Option D
  | .v d => some d
  | .at a i => match get h a with
    | some (.lst ds) => ds[i]?
    | _ => none
/-- the cell and its length, for the end -/
structure Walk where
  its : List Itm
  fin : Option (Nat × Nat)
def finOk (h : Hea) : Option (Nat × Nat) → Bool
  | none => true
  | some (a, n) => match get h a with
    | some (.lst ds) => ds.length == n
    | _ => false
def walkV (h : Hea) : D → Option Walk
  | .tup ds => some ⟨ds.map .v, none⟩
  | .lst ds => some ⟨ds.map .v, none⟩
  | .scr ns => some ⟨ns.map fun n => .v (.int n), none⟩
  | .ref a => match get h a with
    | some (.lst ds) => some ⟨(List.range ds.length).map (.at a ·), some (a, ds.length)⟩
    | _ => none
  | _ => none
def rngL (lo hi : Int) : List Itm := (List.range (hi - lo).toNat).map fun (i : Nat) => .v (.int (lo + (i : Int)))
def R62 (i : Int) : Bool := decide (-(2 ^ 62) ≤ i) && decide (i < 2 ^ 62)
def walkR (a b : D) : Option Walk :=
  match a, b with
  | .int i, .int j => if R62 i && R62 j then some ⟨rngL i j, none⟩ else none
  | _, _ => none

/-- two sequences side by side; numbered -/
def pairD (p : D × D) : Itm := .v (.tup [p.1, p.2])
def fixQ : D → Option (Bool × List D)
  | .tup ds => some (true, ds)
  | .lst ds => some (false, ds)
  | .scr ns => some (false, ns.map .int)
  | _ => none
def walkZ (a b : D) : Option Walk := (fixQ a).bind fun p => (fixQ b).map fun q => ⟨(p.2.zip q.2).map pairD, none⟩
def numD (xs : List D) : List Itm := (((List.range xs.length).map fun i => D.int ((i : Nat) : Int)).zip xs).map pairD
def walkN (a : D) : Option Walk :=
  match a with
  | .lst xs => some ⟨numD xs, none⟩
  | .tup xs => some ⟨numD xs, none⟩
  | _ => none

def frL (body : Env → Hea → R Fl) (tg : Tg) (fin : Option (Nat × Nat)) : List Itm → Env → Hea → R Fl
  | [], ρ, h => if finOk h fin then .ok (.nx ρ) h else .stuck
  | t :: ts, ρ, h => match itm h t with
    | none => .stuck
    | some d => match bindT h tg d ρ with
      | none => .stuck
      | some ρ => (body ρ h).bnd fun f h => match f with
        | .nx ρ => frL body tg fin ts ρ h
        | .ct ρ => frL body tg fin ts ρ h
        | .bk ρ => .ok (.nx ρ) h
        | .rt d => .ok (.rt d) h
        | .xc x ρ => .ok (.xc x ρ) h
def lcL (el : Env → Hea → R D) (cn : Env → Hea → R Bool) (tg : Tg) (ρ : Env) (fin : Option (Nat × Nat)) : List Itm → List D → Hea → R (List D)
  | [], acc, h => if finOk h fin then .ok acc h else .stuck
  | t :: ts, acc, h => match itm h t with
    | none => .stuck
    | some d => match bindT h tg d ρ with
      | none => .stuck
      | some ρ' => (cn ρ' h).bnd fun c h => if c then (el ρ' h).bnd fun d h => if acc.length < SL ∧ below h.length d then lcL el cn tg ρ fin ts (acc ++ [d]) h else .stuck
        else lcL el cn tg ρ fin ts acc h
def whL (tst : Env → Hea → R Bool) (body : Env → Hea → R Fl) : Nat → Env → Hea → R Fl
  | 0, _, _ => .stuck
  | k + 1, ρ, h => (tst ρ h).bns ρ fun c h => if c then (body ρ h).bnd fun f h => match f with
      | .nx ρ => whL tst body k ρ h
      | .ct ρ => whL tst body k ρ h
      | .bk ρ => .ok (.nx ρ) h
      | .rt d => .ok (.rt d) h
      | .xc x ρ => .ok (.xc x ρ) h
    else .ok (.nx ρ) h
def WF : Nat := 1000000

/-! ### evaluation -/
abbrev CT := Nat → List D → Hea → R D
/-- a call's list taken as it stands, its cell given up -/
def melt (n : Nat) (r : R D) : R D :=
  match r with
  | .ok (.ref a) (.lst ds :: h) => if a = h.length ∧ n ≤ a then .ok (.lst ds) h else .stuck
  | .ok (.ref _) _ => .stuck
  | r => r
/-- what a method is called on -/
def rcv (m : Mth) (h : Hea) (x : D) : Bool :=
  match m, x with
  | .join, .str _ => true
  | .join, _ => false
  | .endswith, .str _ => true
  | .endswith, _ => false
  | _, .ref a => match get h a with | some (.lst _) => true | _ => false
  | _, _ => false
def tsts (t : Ex) : Bool := match t with
  | .land _ _ => true | .lor _ _ => true | .lnot _ => true | .ite _ _ _ => true | _ => false
mutual
def ev (C : CT) : Ex → Env → Hea → R D
  | .cst d, _, h => .ok d h
  | .nam i, ρ, h => match ρ[i]? with
    | some (some d) => .ok d h
    | _ => .stuck
  | .bin n o a b, ρ, h => (ev C a ρ h).bnd fun x h => (ev C b ρ h).bnd fun y h => mk n (bop o h x y) h
  | .neg a, ρ, h => (ev C a ρ h).bnd fun x h => match x with
    | .int i => .ok (.int (-i)) h
    | _ => .stuck
  | .cmp o a b, ρ, h => (ev C a ρ h).bnd fun x h => (ev C b ρ h).bnd fun y h => lift (cop o h x y) h
  | .chn o o' a b c, ρ, h => (ev C a ρ h).bnd fun x h => (ev C b ρ h).bnd fun y h => match cop o h x y with
    | some (.bl true) => (ev C c ρ h).bnd fun z h => lift (cop o' h y z) h
    | some (.bl false) => .ok (.bl false) h
    | _ => .stuck
  | .land a b, ρ, h => (ev C a ρ h).bnd fun x h => match x with
    | .bl true => ev C b ρ h
    | .bl false => .ok (.bl false) h
    | _ => .stuck
  | .lor a b, ρ, h => (ev C a ρ h).bnd fun x h => match tru h x with
    | some true => .ok x h
    | some false => ev C b ρ h
    | none => .stuck
  | .lnot a, ρ, h => (ev C a ρ h).bnd fun x h => match x with
    | .bl b => .ok (.bl !b) h
    | _ => .stuck
  | .ite c a b, ρ, h => (tr C c ρ h).bnd fun k h => if k then ev C a ρ h else ev C b ρ h
  | .tup es, ρ, h => (evs C es ρ h).bnd fun ds h => if ds.length ≤ SL then .ok (.tup ds) h else .stuck
  | .lst n es, ρ, h => (evs C es ρ h).bnd fun ds h => if ds.length ≤ SL then mk n (some (.lst ds)) h else .stuck
  | .dic n es, ρ, h => (evs C es ρ h).bnd fun ds h => mk n (disp ds) h
  | .idx a b, ρ, h => (ev C a ρ h).bnd fun x h => (ev C b ρ h).bnd fun y h => lift (ixH h x y) h
  | .slc n a lo hi, ρ, h => (ev C a ρ h).bnd fun x h => (evo C lo ρ h).bnd fun l h => (evo C hi ρ h).bnd fun u h => mk n (slH h x l u) h
  | .cal n g es, ρ, h => (evs C es ρ h).bnd fun ds h => if n then C g ds h else melt h.length (C g ds h)
  | .blt n b es, ρ, h => (evs C es ρ h).bnd fun ds h => mk n (bltH b h ds) h
  | .mth _ m r es, ρ, h => (ev C r ρ h).bnd fun x h => if rcv m h x then (evs C es ρ h).bnd fun ds h => mthH m h x ds else .stuck
  | .lc n el tg it c own, ρ, h => (evi C it ρ h).bnd fun w h =>
      ((lcL (fun ρ h => (ev C el ρ h).nox) (fun ρ h => match c with | .none => .ok true h | .some e => (tr C e ρ h).nox) tg (wipeE ρ own) w.fin w.its [] h)).bnd fun ds h => mk n (some (.lst ds)) h
  | .glb i, _, h => .ok (.int i) h
  | .trg a, ρ, h => (ev C a ρ h).bnd fun x h => match x with
    | .int n => if 0 ≤ n ∧ n ≤ 16777216 then mk false (some (.tup ((List.range n.toNat).map fun (i : Nat) => .int (i : Int)))) h else .stuck
    | _ => .stuck
def evs (C : CT) : Exs → Env → Hea → R (List D)
  | .nil, _, h => .ok [] h
  | .cons e es, ρ, h => (ev C e ρ h).bnd fun d h => (evs C es ρ h).bnd fun ds h => .ok (d :: ds) h
def evo (C : CT) : OEx → Env → Hea → R (Option Int)
  | .none, _, h => .ok none h
  | .some e, ρ, h => (ev C e ρ h).bnd fun d h => match d with
    | .int i => .ok (some i) h
    | _ => .stuck
def evi (C : CT) : It → Env → Hea → R Walk
  | .val e, ρ, h => (ev C e ρ h).bnd fun d h => lift (walkV h d) h
  | .rng a, ρ, h => (ev C a ρ h).bnd fun d h => lift (walkR (.int 0) d) h
  | .rng2 a b, ρ, h => (ev C a ρ h).bnd fun d h => (ev C b ρ h).bnd fun d' h => lift (walkR d d') h
  | .zip a b, ρ, h => (ev C a ρ h).bnd fun d h => (ev C b ρ h).bnd fun d' h => lift (walkZ d d') h
  | .enu a, ρ, h => (ev C a ρ h).bnd fun d h => lift (walkN d) h
def tr (C : CT) : Ex → Env → Hea → R Bool
  | .land a b, ρ, h => (tr C a ρ h).bnd fun k h => if k then tr C b ρ h else .ok false h
  | .lor a b, ρ, h => (tr C a ρ h).bnd fun k h => if k then .ok true h else tr C b ρ h
  | .lnot a, ρ, h => (tr C a ρ h).bnd fun k h => .ok (!k) h
  | .ite c a b, ρ, h => (tr C c ρ h).bnd fun k h => if k then tr C a ρ h else tr C b ρ h
  | .cmp o a b, ρ, h => (ev C a ρ h).bnd fun x h => (ev C b ρ h).bnd fun y h => match cop o h x y with
    | some (.bl k) => .ok k h
    | _ => .stuck
  | .chn o o' a b c, ρ, h => (ev C a ρ h).bnd fun x h => (ev C b ρ h).bnd fun y h => match cop o h x y with
    | some (.bl true) => (ev C c ρ h).bnd fun z h => match cop o' h y z with
      | some (.bl k) => .ok k h
      | _ => .stuck
    | some (.bl false) => .ok false h
    | _ => .stuck
  | .cst d, ρ, h => lift (tru h d) h
  | .nam i, ρ, h => match ρ[i]? with
    | some (some d) => lift (tru h d) h
    | _ => .stuck
  | .idx a b, ρ, h => (ev C a ρ h).bnd fun x h => (ev C b ρ h).bnd fun y h => (lift (ixH h x y) h).bnd fun d h => lift (tru h d) h
  | .cal n g es, ρ, h => (evs C es ρ h).bnd fun ds h => (if n then C g ds h else melt h.length (C g ds h)).bnd fun d h => lift (tru h d) h
  | .blt n b es, ρ, h => (evs C es ρ h).bnd fun ds h => (mk n (bltH b h ds) h).bnd fun d h => lift (tru h d) h
  | .bin n o a b, ρ, h => (ev C a ρ h).bnd fun x h => (ev C b ρ h).bnd fun y h => (mk n (bop o h x y) h).bnd fun d h => lift (tru h d) h
  | .mth _ m r es, ρ, h => (ev C r ρ h).bnd fun x h => if rcv m h x then (evs C es ρ h).bnd fun ds h => (mthH m h x ds).bnd fun d h => lift (tru h d) h else .stuck
  | .slc n a lo hi, ρ, h => (ev C a ρ h).bnd fun x h => (evo C lo ρ h).bnd fun l h => (evo C hi ρ h).bnd fun u h => (mk n (slH h x l u) h).bnd fun d h => lift (tru h d) h
  | _, _, _ => .stuck
end
mutual
def exS (C : CT) : Sm → Env → Hea → R Fl
  | .exp e, ρ, h => (ev C e ρ h).bns ρ fun _ h => .ok (.nx ρ) h
  | .set i e, ρ, h => (ev C e ρ h).bns ρ fun d h => .ok (.nx (ρ.set i (some d))) h
  | .unp is e, ρ, h => (ev C e ρ h).bns ρ fun d h => match seqV h d with
    | some ds => match setAll is ds ρ with
      | some ρ => .ok (.nx ρ) h
      | none => .stuck
    | none => .stuck
  | .sti o i e, ρ, h => (ev C e ρ h).bns ρ fun d h => (ev C o ρ h).bns ρ fun x h => (ev C i ρ h).bns ρ fun y h => match stiH h x y d with
    | some h => .ok (.nx ρ) h
    | none => .stuck
  | .ifs c a b, ρ, h => (tr C c ρ h).bns ρ fun k h => if k then exB C a ρ h else exB C b ρ h
  | .whl c b, ρ, h => whL (tr C c) (fun ρ h => exB C b ρ h) WF ρ h
  | .for_ tg it b, ρ, h => (evi C it ρ h).bns ρ fun w h => frL (fun ρ h => exB C b ρ h) tg w.fin w.its ρ h
  | .ret e, ρ, h => (ev C e ρ h).bns ρ fun d h => .ok (.rt d) h
  | .rtn, _, h => .ok (.rt .non) h
  | .brk, ρ, h => .ok (.bk ρ) h
  | .cnt, ρ, h => .ok (.ct ρ) h
  | .stk, _, _ => .stuck
def exB (C : CT) : List Sm → Env → Hea → R Fl
  | [], ρ, h => .ok (.nx ρ) h
  | s :: ss, ρ, h => (exS C s ρ h).bnd fun f h => match f with
    | .nx ρ => exB C ss ρ h
    | .rt d => .ok (.rt d) h
    | .bk ρ => .ok (.bk ρ) h
    | .ct ρ => .ok (.ct ρ) h
    | .xc x ρ => .ok (.xc x ρ) h
end

/-! ### defs -/
structure Fn where
  np : Nat
  ns : Nat
  raw : Bool
  body : List Sm
/-- a def's end: what it made goes, but what it tells -/
def leave (n : Nat) (d : D) (h : Hea) : R D :=
  match d with
  | .ref a => if a < n then .ok (.ref a) (trunc n h) else match get h a with
    | some (.lst ds) => match ds.mapM (frzN h n) with
      | some ds => .ok (.ref n) (.lst ds :: trunc n h)
      | none => .stuck
    | some (.dic ks vs) => match ks.mapM (frzN h n), vs.mapM (frzN h n) with
      | some ks, some vs => .ok (.ref n) (.dic ks vs :: trunc n h)
      | _, _ => .stuck
    | _ => .stuck
  | d => match frzN h n d with
    | some d => .ok d (trunc n h)
    | none => .stuck
def start (ns : Nat) (ds : List D) : Env := ds.map some ++ List.replicate (ns - ds.length) none
def exF (C : CT) (f : Fn) (ds : List D) (h : Hea) : R D :=
  if ds.length = f.np then match exB C f.body (start f.ns ds) h with
    | .ok (.nx _) h' => leave h.length .non h'
    | .ok (.rt d) h' => if f.raw then .ok d h' else leave h.length d h'
    | .ok (.xc x _) h' => .ex x (trunc h.length h')
    | _ => .stuck
  else .stuck
def run (P : List Fn) : Nat → CT
  | 0, _, _, _ => .stuck
  | k + 1, g, ds, h => match P[g]? with
    | some f => exF (run P k) f ds h
    | none => .stuck
end MP

/-! What the small interpreter's values and heap mean over the hand layer. -/
namespace MP
open PySem PySem.Spec PyProof.Rows L2

/-! ### get, put -/
section
variable {α β : Type}
theorem get_lt : ∀ {h : List α} {a : Nat} {c : α}, get h a = some c → a < h.length
  | [], _, _, e => by cases e
  | x :: h, a, c, e => by
    unfold get at e
    split at e
    · rename_i q; rw [List.length_cons]; omega
    · have := get_lt e; rw [List.length_cons]; omega
theorem get_self {h : List α} {c : α} : get (c :: h) h.length = some c := by unfold get; rw [if_pos rfl]
theorem get_old {h : List α} {c : α} {a : Nat} (l : a < h.length) : get (c :: h) a = get h a := by
  show (if a = h.length then some c else get h a) = _
  rw [if_neg (by omega)]
theorem get_app : ∀ {l h : List α} {a : Nat}, a < h.length → get (l ++ h) a = get h a
  | [], _, _, _ => rfl
  | x :: l, h, a, q => by
    rw [List.cons_append, get_old (by rw [List.length_append]; omega)]
    exact get_app q
theorem get_some : ∀ {h : List α} {a : Nat}, a < h.length → ∃ c, get h a = some c
  | [], a, q => by simp at q
  | x :: h, a, q => by
    by_cases e : a = h.length
    · subst e; exact ⟨x, get_self⟩
    · have : a < h.length := by rw [List.length_cons] at q; omega
      rw [get_old this]; exact get_some this
theorem get_none {h : List α} {a : Nat} (l : h.length ≤ a) : get h a = none := by
  cases e : get h a with
  | none => rfl
  | some c => have := get_lt e; omega
theorem get_mem : ∀ {h : List α} {a : Nat} {c : α}, get h a = some c → c ∈ h
  | x :: h, a, c, e => by
    unfold get at e
    split at e
    · cases e; exact List.mem_cons_self
    · exact List.mem_cons_of_mem _ (get_mem e)
theorem get_inj : ∀ {h : List α} {a b : Nat} {c : α}, h.Nodup → get h a = some c → get h b = some c → a = b
  | [], _, _, _, _, e, _ => by cases e
  | x :: h, a, b, c, nd, e, e' => by
    have nx := (List.nodup_cons.mp nd).1
    unfold get at e e'
    split at e <;> split at e'
    · omega
    · cases e; exact absurd (get_mem e') nx
    · cases e'; exact absurd (get_mem e) nx
    · exact get_inj (List.nodup_cons.mp nd).2 e e'
theorem put_len : ∀ {h : List α} {a : Nat} {x : α}, (put h a x).length = h.length
  | [], _, _ => rfl
  | c :: h, a, x => by
    unfold put
    split
    · rfl
    · rw [List.length_cons, List.length_cons, put_len]
theorem get_put : ∀ {h : List α} {a b : Nat} {x : α}, get (put h a x) b = if b = a ∧ a < h.length then some x else get h b
  | [], a, b, x => by simp [put, get]
  | c :: h, a, b, x => by
    unfold put
    by_cases q : a = h.length
    · rw [if_pos q]
      subst q
      by_cases q2 : b = h.length
      · subst q2; rw [get_self, if_pos ⟨rfl, by simp⟩]
      · rw [if_neg (fun z => q2 z.1)]
        unfold get
        rw [if_neg q2, if_neg q2]
    · rw [if_neg q]
      unfold get
      rw [put_len]
      by_cases q2 : b = h.length
      · rw [if_pos q2, if_pos q2, if_neg (by omega)]
      · rw [if_neg q2, if_neg q2, get_put]
        by_cases q3 : b = a
        · subst q3
          by_cases q4 : b < h.length
          · rw [if_pos ⟨rfl, q4⟩, if_pos ⟨rfl, by simp; omega⟩]
          · rw [if_neg (fun z => q4 z.2), if_neg (fun z => by have := z.2; simp at this; omega)]
        · rw [if_neg (fun z => q3 z.1), if_neg (fun z => q3 z.1)]
theorem trunc_app {l h : List α} : trunc h.length (l ++ h) = h := by
  unfold trunc
  rw [List.length_append, Nat.add_sub_cancel, List.drop_left]
theorem trunc_len {n : Nat} {h : List α} (l : n ≤ h.length) : (trunc n h).length = n := by
  unfold trunc; rw [List.length_drop]; omega
theorem trunc_split {n : Nat} {h : List α} : ∃ l, h = l ++ trunc n h := ⟨h.take (h.length - n), (List.take_append_drop _ _).symm⟩
theorem get_trunc {n a : Nat} {h : List α} (l : n ≤ h.length) (q : a < n) : get (trunc n h) a = get h a := by
  obtain ⟨x, e⟩ := trunc_split (n := n) (h := h)
  have : get (x ++ trunc n h) a = get (trunc n h) a := get_app (by rw [trunc_len l]; exact q)
  rw [← e] at this
  exact this.symm
end

/-! ### meaning -/
def keyOf : D → Option Key
  | .int i => some (.inl i)
  | .str x => some (.inr (strOfL x))
  | _ => none
section
variable (K : PySem.W.Frag)
mutual
def Rp (F : Hp) (m : List Addr) : D → V → Prop
  | .non, v => v = .non
  | .bl b, v => v = .bl b
  | .int i, v => v = .int i
  | .str x, v => v = .str (strOfL x)
  | .tup ds, v => ∃ a vs, v = .ref a ∧ SqT K F a vs ∧ Rps F m ds vs
  | .lst ds, v => ∃ a vs, v = .ref a ∧ F a = some (.lst vs) ∧ Rps F m ds vs
  | .dic ks ds, v => ∃ a kvs, v = .ref a ∧ F a = some (.dK kvs) ∧ ks.map keyOf = kvs.map (fun p => some p.1) ∧ Rps F m ds (kvs.map (·.2))
  | .ref a, v => ∃ p, v = .ref p ∧ get m a = some p
  | .scr ns, v => ∃ a, v = .ref a ∧ SqL K F a (ns.map .int)
def Rps (F : Hp) (m : List Addr) : List D → List V → Prop
  | [], vs => vs = []
  | d :: ds, vs => ∃ v r, vs = v :: r ∧ Rp F m d v ∧ Rps F m ds r
end
def Cr (F : Hp) (m : List Addr) (H : Hp) (p : Addr) : Cell → Prop
  | .lst ds => F p = none ∧ ∃ vs, H p = some (.lst vs) ∧ Rps K F m ds vs
  | .dic ks ds => F p = none ∧ ∃ kvs, H p = some (.dK kvs) ∧ ks.map keyOf = kvs.map (fun p => some p.1) ∧ Rps K F m ds (kvs.map (·.2))
  | .dead => True
def cbelow (n : Nat) : Cell → Bool
  | .lst ds => belows n ds
  | .dic ks vs => belows n ks && belows n vs
  | .dead => true
/-- the own heap h, its cells at the addresses m, what never changes F; G: what is none of ours and stays -/
structure Rel (G F : Hp) (m : List Addr) (h : Hea) (H : Hp) : Prop where
  kp : ∀ p o, G p = some o → H p = some o ∧ F p = none ∧ p ∉ m
  sub : ∀ p o, F p = some o → H p = some o
  len : m.length = h.length
  nd : m.Nodup
  on : ∀ p, p ∈ m → H p ≠ none
  cell : ∀ a c p, get h a = some c → get m a = some p → Cr K F m H p c ∧ cbelow a c = true
/-- slots -/
def Er (F : Hp) (m : List Addr) (ρ : Env) (σ : L2.St) : Prop := ρ.length = σ.length ∧ ∀ (i : Nat) d, ρ[i]? = some (some d) → ∃ v, σ[i]? = some (some v) ∧ Rp K F m d v
end
structure Ext (F : Hp) (m : List Addr) (F' : Hp) (m' : List Addr) : Prop where
  sub : ∀ p o, F p = some o → F' p = some o
  app : ∃ l, m' = l ++ m
theorem Ext.refl {F : Hp} {m : List Addr} : Ext F m F m := ⟨fun _ _ h => h, [], rfl⟩
theorem Ext.trans {F F' F'' : Hp} {m m' m'' : List Addr} (a : Ext F m F' m') (b : Ext F' m' F'' m'') : Ext F m F'' m'' :=
  ⟨fun p o h => b.sub p o (a.sub p o h), by
    obtain ⟨l, e⟩ := a.app
    obtain ⟨l', e'⟩ := b.app
    exact ⟨l' ++ l, by rw [e', e, List.append_assoc]⟩⟩
theorem Ext.get {F F' : Hp} {m m' : List Addr} (x : Ext F m F' m') {a : Nat} {p : Addr} (e : MP.get m a = some p) : MP.get m' a = some p := by
  obtain ⟨l, rfl⟩ := x.app
  rw [get_app (get_lt e)]; exact e
theorem SqL.mono {K : PySem.W.Frag} {F F' : Hp} {a : Addr} {xs : List V} (s : ∀ p o, F p = some o → F' p = some o) (h : SqL K F a xs) : SqL K F' a xs := by
  rcases h with (h | ⟨o, h⟩) | h
  · exact .inl (.inl (s _ _ h))
  · exact .inl (.inr ⟨o, s _ _ h⟩)
  · exact .inr h
theorem SqT.mono {K : PySem.W.Frag} {F F' : Hp} {a : Addr} {xs : List V} (s : ∀ p o, F p = some o → F' p = some o) (h : SqT K F a xs) : SqT K F' a xs := by
  rcases h with (h | ⟨o, h⟩) | h
  · exact .inl (.inl (s _ _ h))
  · exact .inl (.inr ⟨o, s _ _ h⟩)
  · exact .inr h
section
variable {K : PySem.W.Frag} {G F F' : Hp} {m m' : List Addr} {h : Hea} {H H' : Hp} {ρ : Env} {σ : L2.St}
mutual
theorem Rp.mono (x : Ext F m F' m') : ∀ (d : D) (v : V), Rp K F m d v → Rp K F' m' d v
  | .non, v, h => by unfold Rp at h ⊢; exact h
  | .bl b, v, h => by unfold Rp at h ⊢; exact h
  | .int i, v, h => by unfold Rp at h ⊢; exact h
  | .str s, v, h => by unfold Rp at h ⊢; exact h
  | .tup ds, v, h => by
    unfold Rp at h ⊢
    obtain ⟨a, vs, e, s, r⟩ := h
    exact ⟨a, vs, e, SqT.mono x.sub s, Rps.mono x ds vs r⟩
  | .lst ds, v, h => by
    unfold Rp at h ⊢
    obtain ⟨a, vs, e, s, r⟩ := h
    exact ⟨a, vs, e, x.sub _ _ s, Rps.mono x ds vs r⟩
  | .dic ks ds, v, h => by
    unfold Rp at h ⊢
    obtain ⟨a, kvs, e, s, k, r⟩ := h
    exact ⟨a, kvs, e, x.sub _ _ s, k, Rps.mono x ds _ r⟩
  | .ref a, v, h => by
    unfold Rp at h ⊢
    obtain ⟨p, e, g⟩ := h
    exact ⟨p, e, x.get g⟩
  | .scr ns, v, h => by
    unfold Rp at h ⊢
    obtain ⟨a, e, s⟩ := h
    exact ⟨a, e, SqL.mono x.sub s⟩
theorem Rps.mono (x : Ext F m F' m') : ∀ (ds : List D) (vs : List V), Rps K F m ds vs → Rps K F' m' ds vs
  | [], vs, h => by unfold Rps at h ⊢; exact h
  | d :: ds, vs, h => by
    unfold Rps at h ⊢
    obtain ⟨v, r, e, h1, h2⟩ := h
    exact ⟨v, r, e, Rp.mono x d v h1, Rps.mono x ds r h2⟩
end
theorem Rps.nil {vs : List V} (h : Rps K F m [] vs) : vs = [] := by unfold Rps at h; exact h
theorem Rps.cons {d : D} {ds : List D} {vs : List V} (h : Rps K F m (d :: ds) vs) : ∃ v r, vs = v :: r ∧ Rp K F m d v ∧ Rps K F m ds r := by unfold Rps at h; exact h
theorem Rps.mk0 : Rps K F m [] [] := by unfold Rps; rfl
theorem Rps.mk {d : D} {ds : List D} {v : V} {vs : List V} (h1 : Rp K F m d v) (h2 : Rps K F m ds vs) : Rps K F m (d :: ds) (v :: vs) := by unfold Rps; exact ⟨v, vs, rfl, h1, h2⟩
theorem Rps.len : ∀ {ds : List D} {vs : List V}, Rps K F m ds vs → ds.length = vs.length
  | [], vs, h => by rw [h.nil]; rfl
  | d :: ds, vs, h => by obtain ⟨v, r, rfl, _, h2⟩ := h.cons; rw [List.length_cons, List.length_cons, h2.len]
theorem Rps.app : ∀ {ds es : List D} {vs ws : List V}, Rps K F m ds vs → Rps K F m es ws → Rps K F m (ds ++ es) (vs ++ ws)
  | [], _, _, _, h, h' => by rw [h.nil]; exact h'
  | d :: ds, _, _, _, h, h' => by obtain ⟨v, r, rfl, h1, h2⟩ := h.cons; exact .mk h1 (h2.app h')
theorem Rps.get : ∀ {ds : List D} {vs : List V} {i : Nat} {d : D}, Rps K F m ds vs → ds[i]? = some d → ∃ v, vs[i]? = some v ∧ Rp K F m d v
  | [], _, _, _, _, e => by simp at e
  | d :: ds, vs, 0, x, h, e => by obtain ⟨v, r, rfl, h1, h2⟩ := h.cons; simp at e; subst e; exact ⟨v, rfl, h1⟩
  | d :: ds, vs, i + 1, x, h, e => by obtain ⟨v, r, rfl, h1, h2⟩ := h.cons; exact h2.get (by simpa using e)
theorem Rps.set : ∀ {ds : List D} {vs : List V} {i : Nat} {d : D} {v : V}, Rps K F m ds vs → Rp K F m d v → Rps K F m (ds.set i d) (vs.set i v)
  | [], _, _, _, _, h, _ => by rw [h.nil]; exact .mk0
  | d :: ds, vs, 0, x, w, h, q => by obtain ⟨v, r, rfl, h1, h2⟩ := h.cons; exact .mk q h2
  | d :: ds, vs, i + 1, x, w, h, q => by obtain ⟨v, r, rfl, h1, h2⟩ := h.cons; exact .mk h1 (h2.set q)
theorem Rps.drop : ∀ {ds : List D} {vs : List V} (i : Nat), Rps K F m ds vs → Rps K F m (ds.drop i) (vs.drop i)
  | ds, vs, 0, h => h
  | [], vs, i + 1, h => by rw [h.nil]; exact .mk0
  | d :: ds, vs, i + 1, h => by obtain ⟨v, r, rfl, h1, h2⟩ := h.cons; exact h2.drop i
theorem Rps.take : ∀ {ds : List D} {vs : List V} (i : Nat), Rps K F m ds vs → Rps K F m (ds.take i) (vs.take i)
  | ds, vs, 0, h => .mk0
  | [], vs, i + 1, h => by rw [h.nil]; exact .mk0
  | d :: ds, vs, i + 1, h => by obtain ⟨v, r, rfl, h1, h2⟩ := h.cons; exact .mk h1 (h2.take i)
theorem Cr.mono (x : Ext F m F' m') {p : Addr} {c : Cell} (n : c = .dead ∨ F' p = none) (h : Cr K F m H p c) : Cr K F' m' H p c := by
  cases c with
  | lst ds =>
    obtain ⟨_, vs, e, r⟩ := h
    exact ⟨n.resolve_left (by simp), vs, e, Rps.mono x ds vs r⟩
  | dic ks ds =>
    obtain ⟨_, kvs, e, k, r⟩ := h
    exact ⟨n.resolve_left (by simp), kvs, e, k, Rps.mono x ds _ r⟩
  | dead => trivial
theorem Er.mono (x : Ext F m F' m') (h : Er K F m ρ σ) : Er K F' m' ρ σ := ⟨h.1, fun i d e => by
  obtain ⟨v, e', r⟩ := h.2 i d e
  exact ⟨v, e', Rp.mono x d v r⟩⟩
theorem Er.set {i : Nat} {d : D} {v : V} (h : Er K F m ρ σ) (r : Rp K F m d v) : Er K F m (ρ.set i (some d)) (σ.set i (some v)) := ⟨by simpa using h.1, fun j e q => by
  by_cases hj : i = j
  · subst hj
    by_cases hl : i < ρ.length
    · rw [List.getElem?_set_self hl] at q
      cases q
      exact ⟨v, by rw [List.getElem?_set_self (by rw [← h.1]; exact hl)], r⟩
    · rw [List.getElem?_eq_none (by simpa using hl)] at q; cases q
  · rw [List.getElem?_set_ne hj] at q ⊢
    exact h.2 j e q⟩
theorem Er.unset {i : Nat} (h : Er K F m ρ σ) : Er K F m (ρ.set i none) (σ.set i none) := ⟨by simpa using h.1, fun j e q => by
  by_cases hj : i = j
  · subst hj
    by_cases hl : i < ρ.length
    · rw [List.getElem?_set_self hl] at q; cases q
    · rw [List.getElem?_eq_none (by simpa using hl)] at q; cases q
  · rw [List.getElem?_set_ne hj] at q ⊢
    exact h.2 j e q⟩
theorem Er.wipe (h : Er K F m ρ σ) : ∀ vs : List Nat, Er K F m (wipeE ρ vs) (wipe σ vs)
  | [] => h
  | v :: vs => by unfold wipeE L2.wipe; exact (h.wipe vs).unset

/-- an object, never to be changed (again) -/
theorem Rel.upF {p : Addr} {o : HO} (r : Rel K G F m h H) (hF : F p = none) (hm : p ∉ m) (hG : G p = none) : Rel K G (upd F p o) m h (upd H p o) ∧ Ext F m (upd F p o) m := by
  have x : Ext F m (upd F p o) m := ⟨fun q u e => by
    by_cases hq : q = p
    · subst hq; rw [hF] at e; cases e
    · rw [upd_ne hq]; exact e, [], rfl⟩
  have np : ∀ q, q ∈ m → q ≠ p := fun q hq e => hm (e ▸ hq)
  have nG : ∀ q u, G q = some u → q ≠ p := fun q u e z => by rw [z, hG] at e; cases e
  refine ⟨⟨fun q u e => ⟨by rw [upd_ne (nG q u e)]; exact (r.kp q u e).1, by rw [upd_ne (nG q u e)]; exact (r.kp q u e).2.1, (r.kp q u e).2.2⟩, fun q u e => ?_, r.len, r.nd, fun q hq => ?_, fun a c q hc hq => ?_⟩, x⟩
  · by_cases hq : q = p
    · subst hq; rw [upd_same] at e ⊢; exact e
    · rw [upd_ne hq] at e ⊢; exact r.sub q u e
  · rw [upd_ne (np q hq)]; exact r.on q hq
  · have hne := np q (get_mem hq)
    obtain ⟨k, b⟩ := r.cell a c q hc hq
    refine ⟨?_, b⟩
    have k' : Cr K F m (upd H p o) q c := by
      cases c with
      | lst ds => obtain ⟨f, vs, e, rr⟩ := k; exact ⟨f, vs, by rw [upd_ne hne]; exact e, rr⟩
      | dic ks ds => obtain ⟨f, vs, e, rr⟩ := k; exact ⟨f, vs, by rw [upd_ne hne]; exact e, rr⟩
      | dead => trivial
    refine Cr.mono x ?_ k'
    cases c with
    | lst ds => right; rw [upd_ne hne]; exact k.1
    | dic ks ds => right; rw [upd_ne hne]; exact k.1
    | dead => exact .inl rfl
/-- a cell more -/
theorem Rel.upC {p : Addr} {c : Cell} {o : HO} (r : Rel K G F m h H) (hF' : F p = none) (hm : p ∉ m) (hG : G p = none) (ho : Cr K F (p :: m) (upd H p o) p c) (hb : cbelow h.length c = true) : Rel K G F (p :: m) (c :: h) (upd H p o) ∧ Ext F m F (p :: m) := by
  have x : Ext F m F (p :: m) := ⟨fun _ _ h => h, [p], rfl⟩
  have np : ∀ q, q ∈ m → q ≠ p := fun q hq e => hm (e ▸ hq)
  have hF : ∀ q u, F q = some u → q ≠ p := fun q u e z => by rw [z, hF'] at e; cases e
  have nG : ∀ q u, G q = some u → q ≠ p := fun q u e z => by rw [z, hG] at e; cases e
  refine ⟨⟨fun q u e => ⟨by rw [upd_ne (nG q u e)]; exact (r.kp q u e).1, (r.kp q u e).2.1, fun z => by
    rcases List.mem_cons.mp z with z | z
    · exact nG q u e z
    · exact (r.kp q u e).2.2 z⟩, fun q u e => ?_, by simp [r.len], List.nodup_cons.mpr ⟨fun hp => np p hp rfl, r.nd⟩, fun q hq => ?_, fun a c' q hc hq => ?_⟩, x⟩
  · rw [upd_ne (hF q u e)]; exact r.sub q u e
  · rcases List.mem_cons.mp hq with rfl | hq
    · rw [upd_same]; simp
    · rw [upd_ne (np q hq)]; exact r.on q hq
  · by_cases ha : a = h.length
    · subst ha
      rw [get_self] at hc; cases hc
      rw [← r.len, get_self] at hq; cases hq
      exact ⟨ho, hb⟩
    · have hl : a < h.length := by have := get_lt hc; rw [List.length_cons] at this; omega
      rw [get_old hl] at hc
      rw [get_old (by rw [r.len]; exact hl)] at hq
      have hne := np q (get_mem hq)
      obtain ⟨k, b⟩ := r.cell a c' q hc hq
      refine ⟨?_, b⟩
      have k' : Cr K F m (upd H p o) q c' := by
        cases c' with
        | lst ds => obtain ⟨f, vs, e, rr⟩ := k; exact ⟨f, vs, by rw [upd_ne hne]; exact e, rr⟩
        | dic ks ds => obtain ⟨f, vs, e, rr⟩ := k; exact ⟨f, vs, by rw [upd_ne hne]; exact e, rr⟩
        | dead => trivial
      refine Cr.mono x ?_ k'
      cases c' with
      | lst ds => right; exact k.1
      | dic ks ds => right; exact k.1
      | dead => exact .inl rfl
/-- an address kept for oneself -/
theorem Rel.upG {p : Addr} {o : HO} (r : Rel K G F m h H) (hF' : F p = none) (hm : p ∉ m) : Rel K (upd G p o) F m h (upd H p o) := by
  have np : ∀ q, q ∈ m → q ≠ p := fun q hq e => hm (e ▸ hq)
  have hF : ∀ q u, F q = some u → q ≠ p := fun q u e z => by rw [z, hF'] at e; cases e
  refine ⟨fun q u e => ?_, fun q u e => by rw [upd_ne (hF q u e)]; exact r.sub q u e, r.len, r.nd, fun q hq => by rw [upd_ne (np q hq)]; exact r.on q hq, fun a c q hc hq => ?_⟩
  · by_cases hq : q = p
    · subst hq; rw [upd_same] at e ⊢; exact ⟨e, hF', hm⟩
    · rw [upd_ne hq] at e ⊢; exact r.kp q u e
  · have hne := np q (get_mem hq)
    obtain ⟨k, b⟩ := r.cell a c q hc hq
    refine ⟨?_, b⟩
    cases c with
    | lst ds => obtain ⟨f, vs, e, rr⟩ := k; exact ⟨f, vs, by rw [upd_ne hne]; exact e, rr⟩
    | dic ks ds => obtain ⟨f, vs, e, rr⟩ := k; exact ⟨f, vs, by rw [upd_ne hne]; exact e, rr⟩
    | dead => trivial
theorem Rel.wk {G' : Hp} (r : Rel K G' F m h H) (s : ∀ q u, G q = some u → G' q = some u) : Rel K G F m h H := ⟨fun q u e => r.kp q u (s q u e), r.sub, r.len, r.nd, r.on, r.cell⟩
theorem Rel.out {p : Addr} (r : Rel K G F m h H) (n : H p = none) : F p = none ∧ p ∉ m ∧ G p = none := by
  refine ⟨?_, fun q => r.on p q n, ?_⟩
  · cases e : F p with
    | none => rfl
    | some u => have := r.sub p u e; rw [n] at this; cases this
  · cases e : G p with
    | none => rfl
    | some u => have := (r.kp p u e).1; rw [n] at this; cases this
/-- a new object, never to be changed -/
theorem Rel.newF {p : Addr} {o : HO} (r : Rel K G F m h H) (n : H p = none) : Rel K G (upd F p o) m h (upd H p o) ∧ Ext F m (upd F p o) m := r.upF (r.out n).1 (r.out n).2.1 (r.out n).2.2
/-- a new cell -/
theorem Rel.newC {p : Addr} {c : Cell} {o : HO} (r : Rel K G F m h H) (n : H p = .none) (ho : Cr K F (p :: m) (upd H p o) p c) (hb : cbelow h.length c = true) : Rel K G F (p :: m) (c :: h) (upd H p o) ∧ Ext F m F (p :: m) := r.upC (r.out n).1 (r.out n).2.1 (r.out n).2.2 ho hb
/-- a cell written -/
theorem Rel.wr {p : Addr} {a : Nat} {c c' : Cell} {o : HO} (r : Rel K G F m h H) (hc : get h a = some c) (hp : get m a = some p) (nF : F p = none) (ho : Cr K F m (upd H p o) p c') (hb : cbelow a c' = true) : Rel K G F m (put h a c') (upd H p o) := by
  have hF : ∀ q u, F q = some u → q ≠ p := fun q u e z => by rw [z, nF] at e; cases e
  refine ⟨fun q u e => ⟨by rw [upd_ne (fun z => (r.kp q u e).2.2 (by rw [z]; exact get_mem hp))]; exact (r.kp q u e).1, (r.kp q u e).2.1, (r.kp q u e).2.2⟩, fun q u e => ?_, by rw [put_len]; exact r.len, r.nd, fun q hq => ?_, fun b d q hd hq => ?_⟩
  · rw [upd_ne (hF q u e)]; exact r.sub q u e
  · by_cases z : q = p
    · rw [z, upd_same]; simp
    · rw [upd_ne z]; exact r.on q hq
  · rw [get_put] at hd
    by_cases z : b = a
    · subst z
      rw [if_pos ⟨rfl, get_lt hc⟩] at hd
      cases hd
      rw [hp] at hq; cases hq
      exact ⟨ho, hb⟩
    · rw [if_neg (fun y => z y.1)] at hd
      obtain ⟨k, bb⟩ := r.cell b d q hd hq
      have hne : q ≠ p := fun e => z (get_inj r.nd (by rw [e] at hq; exact hq) hp)
      refine ⟨?_, bb⟩
      cases d with
      | lst ds => obtain ⟨f, vs, e, rr⟩ := k; exact ⟨f, vs, by rw [upd_ne hne]; exact e, rr⟩
      | dic ks ds => obtain ⟨f, vs, e, rr⟩ := k; exact ⟨f, vs, by rw [upd_ne hne]; exact e, rr⟩
      | dead => trivial
end
end MP

set_option maxHeartbeats 1000000
/-! Readings by the small interpreter; operations on values. -/
namespace MP
open PySem PySem.Spec PyProof.Rows L2
abbrev Stt := L2.St

def Xr (XT : List Value) (x : Xc) (cls : Value) (d : Option Addr) : Prop := XT[x.c]? = some cls ∧ x.arg = none ∧ d = none
/-- what a result is to bring about -/
def Pst {α : Type} (K : PySem.W.Frag) (XT : List Value) (W : Value → Option Addr → Hp → Prop) (G F : Hp) (m : List Addr) (r : R α) (Z : Hp → List Addr → Hea → Hp → α → Prop) : Prop :=
  match r with
  | .ok a h' => ∀ F' m' H', Ext F m F' m' → Rel K G F' m' h' H' → Z F' m' h' H' a
  | .ex x h' => ∀ F' m' H' cls d, Ext F m F' m' → Rel K G F' m' h' H' → Xr XT x cls d → W cls d H'
  | .stuck => False
section
variable {K : PySem.W.Frag} {XT : List Value} {W : Value → Option Addr → Hp → Prop} {G F F' : Hp} {m m' : List Addr} {h : Hea} {H H' : Hp} {ρ : Env} {σ : Stt} {α β : Type} {r : R α} {Z Z' : Hp → List Addr → Hea → Hp → α → Prop}
theorem Pst.mono (p : Pst K XT W G F m r Z) (k : ∀ F' m' h' H' a, Ext F m F' m' → Rel K G F' m' h' H' → Z F' m' h' H' a → Z' F' m' h' H' a) : Pst K XT W G F m r Z' := by
  cases r with
  | ok a h' => exact fun F' m' H' x rl => k _ _ _ _ _ x rl (p F' m' H' x rl)
  | ex x h' => exact p
  | stuck => exact p
theorem Pst.ext (x : Ext F m F' m') (p : Pst K XT W G F m r Z) : Pst K XT W G F' m' r Z := by
  cases r with
  | ok a h' => exact fun F'' m'' H' x' rl => p _ _ H' (x.trans x') rl
  | ex e h' => exact fun F'' m'' H' c d x' rl q => p _ _ H' c d (x.trans x') rl q
  | stuck => exact p
theorem Pst.bnd {f : α → Hea → R β} {Z : Hp → List Addr → Hea → Hp → β → Prop} (p : Pst K XT W G F m (r.bnd f) Z) : Pst K XT W G F m r (fun F' m' h' _ a => Pst K XT W G F' m' (f a h') Z) := by
  cases r with
  | ok a h' => exact fun F' m' H' x rl => Pst.ext x p
  | ex x h' => exact p
  | stuck => exact p
theorem Pst.ok {a : α} (p : Pst K XT W G F m (.ok a h) Z) (rl : Rel K G F m h H) : Z F m h H a := p F m H .refl rl
end

/-! ### readings -/
section
variable (K : PySem.W.Frag) (XT : List Value) (C : CT) (W : WX)
abbrev WAt (σ : Stt) : Value → Option Addr → Hp → Prop := fun c d H => W c d σ H
def tE (e : Ex) : TE := fun σ H Q => ∃ G F m h ρ, Rel K G F m h H ∧ Er K F m ρ σ ∧ Pst K XT (WAt W σ) G F m (ev C e ρ h) (fun F' m' _ H' d => ∀ v, Rp K F' m' d v → Q v H')
def tEs (e : Exs) : TA := fun σ H Q => ∃ G F m h ρ, Rel K G F m h H ∧ Er K F m ρ σ ∧ Pst K XT (WAt W σ) G F m (evs C e ρ h) (fun F' m' _ H' ds => ∀ vs, Rps K F' m' ds vs → Q vs H')
def tT (e : Ex) : TT := fun σ H Q => ∃ G F m h ρ, Rel K G F m h H ∧ Er K F m ρ σ ∧ Pst K XT (WAt W σ) G F m (tr C e ρ h) (fun _ _ _ H' b => Q b H')
def tO (e : OEx) : TO := fun σ H Q => ∃ G F m h ρ, Rel K G F m h H ∧ Er K F m ρ σ ∧ Pst K XT (WAt W σ) G F m (evo C e ρ h) (fun _ _ _ H' b => Q b H')
end
theorem _root_.L2.PE.imp {X : Cx} {e : Expr} {t t' : TE} (p : PE X e t) (k : ∀ σ H Q, t' σ H Q → t σ H Q) : PE X e t' := ⟨fun pins s σ H Q I h => p.run pins s σ H Q I (k σ H Q h)⟩
theorem _root_.L2.PT.imp {X : Cx} {e : Expr} {t t' : TT} (p : PT X e t) (k : ∀ σ H Q, t' σ H Q → t σ H Q) : PT X e t' := ⟨fun pins s σ H Q I h => p.run pins s σ H Q I (k σ H Q h)⟩
theorem _root_.L2.PW.imp {X : Cx} {e : Expr} {t t' : TT} (p : PW X e t) (k : ∀ σ H Q, t' σ H Q → t σ H Q) : PW X e t' := ⟨fun wh pins s σ H Q I h => p.run wh pins s σ H Q I (k σ H Q h)⟩
theorem _root_.L2.PA.imp {X : Cx} {e : List Expr} {t t' : TA} (p : PA X e t) (k : ∀ σ H Q, t' σ H Q → t σ H Q) : PA X e t' := ⟨fun pos pins s σ H Q I h => p.run pos pins s σ H Q I (k σ H Q h)⟩
theorem _root_.L2.PO.imp {X : Cx} {e : Option Expr} {t t' : TO} (p : PO X e t) (k : ∀ σ H Q, t' σ H Q → t σ H Q) : PO X e t' := ⟨fun pins s σ H Q I h => p.run pins s σ H Q I (k σ H Q h)⟩

section
variable {K : PySem.W.Frag} {XT : List Value} {C : CT} {W : WX} {G F : Hp} {m : List Addr} {h : Hea} {H : Hp} {ρ : Env} {σ : Stt} {α β : Type} {Z : Hp → List Addr → Hea → Hp → β → Prop}
/-- a first part, then the rest -/
theorem tE.bnd {e : Ex} {f : D → Hea → R β} {Q : VK} (rl : Rel K G F m h H) (er : Er K F m ρ σ) (p : Pst K XT (WAt W σ) G F m ((ev C e ρ h).bnd f) Z)
    (k : ∀ F' m' h' H' d v, Ext F m F' m' → Rel K G F' m' h' H' → Er K F' m' ρ σ → Rp K F' m' d v → Pst K XT (WAt W σ) G F' m' (f d h') Z → Q v H') : tE K XT C W e σ H Q :=
  ⟨G, F, m, h, ρ, rl, er, p.bnd.mono fun F' m' h' H' d x rl' p' v r => k F' m' h' H' d v x rl' (er.mono x) r p'⟩
theorem tEs.bnd {e : Exs} {f : List D → Hea → R β} {Q : List V → Hp → Prop} (rl : Rel K G F m h H) (er : Er K F m ρ σ) (p : Pst K XT (WAt W σ) G F m ((evs C e ρ h).bnd f) Z)
    (k : ∀ F' m' h' H' d v, Ext F m F' m' → Rel K G F' m' h' H' → Er K F' m' ρ σ → Rps K F' m' d v → Pst K XT (WAt W σ) G F' m' (f d h') Z → Q v H') : tEs K XT C W e σ H Q :=
  ⟨G, F, m, h, ρ, rl, er, p.bnd.mono fun F' m' h' H' d x rl' p' v r => k F' m' h' H' d v x rl' (er.mono x) r p'⟩
theorem tT.bnd {e : Ex} {f : Bool → Hea → R β} {Q : Bool → Hp → Prop} (rl : Rel K G F m h H) (er : Er K F m ρ σ) (p : Pst K XT (WAt W σ) G F m ((tr C e ρ h).bnd f) Z)
    (k : ∀ F' m' h' H' b, Ext F m F' m' → Rel K G F' m' h' H' → Er K F' m' ρ σ → Pst K XT (WAt W σ) G F' m' (f b h') Z → Q b H') : tT K XT C W e σ H Q :=
  ⟨G, F, m, h, ρ, rl, er, p.bnd.mono fun F' m' h' H' d x rl' p' => k F' m' h' H' d x rl' (er.mono x) p'⟩
theorem tO.bnd {e : OEx} {f : Option Int → Hea → R β} {Q : Option Int → Hp → Prop} (rl : Rel K G F m h H) (er : Er K F m ρ σ) (p : Pst K XT (WAt W σ) G F m ((evo C e ρ h).bnd f) Z)
    (k : ∀ F' m' h' H' b, Ext F m F' m' → Rel K G F' m' h' H' → Er K F' m' ρ σ → Pst K XT (WAt W σ) G F' m' (f b h') Z → Q b H') : tO K XT C W e σ H Q :=
  ⟨G, F, m, h, ρ, rl, er, p.bnd.mono fun F' m' h' H' d x rl' p' => k F' m' h' H' d x rl' (er.mono x) p'⟩
end

/-! ### values and what stands there -/
section
variable {K : PySem.W.Frag} {G F : Hp} {m : List Addr} {h : Hea} {H : Hp}
theorem rp_non {v : V} (r : Rp K F m .non v) : v = .non := by unfold Rp at r; exact r
theorem rp_bl {b : Bool} {v : V} (r : Rp K F m (.bl b) v) : v = .bl b := by unfold Rp at r; exact r
theorem rp_int {i : Int} {v : V} (r : Rp K F m (.int i) v) : v = .int i := by unfold Rp at r; exact r
theorem rp_str {x : List Nat} {v : V} (r : Rp K F m (.str x) v) : v = .str (strOfL x) := by unfold Rp at r; exact r
theorem rp_tup {ds : List D} {v : V} (r : Rp K F m (.tup ds) v) : ∃ a vs, v = .ref a ∧ SqT K F a vs ∧ Rps K F m ds vs := by unfold Rp at r; exact r
theorem rp_lst {ds : List D} {v : V} (r : Rp K F m (.lst ds) v) : ∃ a vs, v = .ref a ∧ F a = some (.lst vs) ∧ Rps K F m ds vs := by unfold Rp at r; exact r
theorem rp_scr {ns : List Int} {v : V} (r : Rp K F m (.scr ns) v) : ∃ a, v = .ref a ∧ SqL K F a (ns.map .int) := by unfold Rp at r; exact r
theorem rp_ref {a : Nat} {v : V} (r : Rp K F m (.ref a) v) : ∃ p, v = .ref p ∧ MP.get m a = some p := by unfold Rp at r; exact r
theorem rp_dic {ks ds : List D} {v : V} (r : Rp K F m (.dic ks ds) v) : ∃ a kvs, v = .ref a ∧ F a = some (.dK kvs) ∧ ks.map keyOf = kvs.map (fun p => some p.1) ∧ Rps K F m ds (kvs.map (·.2)) := by unfold Rp at r; exact r
theorem mk_non : Rp K F m .non .non := by unfold Rp; rfl
theorem mk_bl {b : Bool} : Rp K F m (.bl b) (.bl b) := by unfold Rp; rfl
theorem mk_int {i : Int} : Rp K F m (.int i) (.int i) := by unfold Rp; rfl
theorem mk_str {x : List Nat} : Rp K F m (.str x) (.str (strOfL x)) := by unfold Rp; rfl
theorem mk_tup {ds : List D} {a : Addr} {vs : List V} (s : SqT K F a vs) (r : Rps K F m ds vs) : Rp K F m (.tup ds) (.ref a) := by unfold Rp; exact ⟨a, vs, rfl, s, r⟩
theorem mk_lst {ds : List D} {a : Addr} {vs : List V} (s : F a = some (.lst vs)) (r : Rps K F m ds vs) : Rp K F m (.lst ds) (.ref a) := by unfold Rp; exact ⟨a, vs, rfl, s, r⟩
theorem mk_ref {a : Nat} {p : Addr} (g : MP.get m a = some p) : Rp K F m (.ref a) (.ref p) := by unfold Rp; exact ⟨p, rfl, g⟩
mutual
theorem Rp.below : ∀ {d : D} {v : V}, Rp K F m d v → below m.length d = true
  | .non, _, _ => by unfold MP.below; rfl
  | .bl _, _, _ => by unfold MP.below; rfl
  | .int _, _, _ => by unfold MP.below; rfl
  | .str _, _, _ => by unfold MP.below; rfl
  | .scr _, _, _ => by unfold MP.below; rfl
  | .tup ds, _, r => by obtain ⟨a, vs, _, _, q⟩ := rp_tup r; unfold MP.below; exact Rps.below q
  | .lst ds, _, r => by obtain ⟨a, vs, _, _, q⟩ := rp_lst r; unfold MP.below; exact Rps.below q
  | .dic ks ds, _, r => by
    obtain ⟨a, kvs, _, _, k, q⟩ := rp_dic r
    unfold MP.below
    rw [Rps.below q, Bool.and_true]
    have : ∀ (ks : List D) (kvs : List (Key × V)), ks.map keyOf = kvs.map (fun p => some p.1) → belows m.length ks = true := by
      intro ks
      induction ks with
      | nil => intro _ _; unfold belows; rfl
      | cons d ks ih =>
        intro kvs e
        cases kvs with
        | nil => simp at e
        | cons p kvs =>
          simp only [List.map_cons, List.cons.injEq] at e
          unfold belows
          rw [ih kvs e.2, Bool.and_true]
          cases d <;> first | (simp [keyOf] at e; done) | (unfold MP.below; rfl)
    exact this ks kvs k
  | .ref a, _, r => by obtain ⟨p, _, g⟩ := rp_ref r; unfold MP.below; exact decide_eq_true (get_lt g)
theorem Rps.below : ∀ {ds : List D} {vs : List V}, Rps K F m ds vs → belows m.length ds = true
  | [], _, _ => by unfold belows; rfl
  | d :: ds, _, r => by obtain ⟨v, q, _, r1, r2⟩ := r.cons; unfold belows; rw [Rp.below r1, Rps.below r2]; rfl
end
/-- a list that is read -/
theorem lstW_ok {d : D} {v : V} {ds : List D} (rl : Rel K G F m h H) (r : Rp K F m d v) (e : lstW h d = some ds) : ∃ p vs, v = .ref p ∧ H p = some (.lst vs) ∧ Rps K F m ds vs := by
  cases d with
  | lst es =>
    obtain ⟨a, vs, rfl, s, q⟩ := rp_lst r
    cases e
    exact ⟨a, vs, rfl, rl.sub _ _ s, q⟩
  | ref a =>
    obtain ⟨p, rfl, g⟩ := rp_ref r
    unfold lstW at e
    dsimp only at e
    cases hc : MP.get h a with
    | none => rw [hc] at e; cases e
    | some c =>
      rw [hc] at e
      cases c with
      | lst es =>
        cases e
        obtain ⟨⟨_, vs, e1, q⟩, _⟩ := rl.cell a _ p hc g
        exact ⟨p, vs, rfl, e1, q⟩
      | _ => cases e
  | _ => cases e
theorem lstV_ok {d : D} {v : V} {ds : List D} (rl : Rel K G F m h H) (r : Rp K F m d v) (e : lstV h d = some ds) : ∃ p vs, v = .ref p ∧ SqL K H p vs ∧ Rps K F m ds vs := by
  cases d with
  | scr ns =>
    obtain ⟨a, rfl, s⟩ := rp_scr r
    cases e
    refine ⟨a, ns.map .int, rfl, SqL.mono rl.sub s, ?_⟩
    clear s r
    induction ns with
    | nil => exact .mk0
    | cons n ns ih => exact .mk mk_int ih
  | lst es =>
    obtain ⟨p, vs, rfl, e1, q⟩ := lstW_ok rl r (ds := ds) e
    exact ⟨p, vs, rfl, .inl (.inl e1), q⟩
  | ref a =>
    obtain ⟨p, vs, rfl, e1, q⟩ := lstW_ok rl r (ds := ds) e
    exact ⟨p, vs, rfl, .inl (.inl e1), q⟩
  | _ => cases e
theorem seqV_ok {d : D} {v : V} {ds : List D} (rl : Rel K G F m h H) (r : Rp K F m d v) (e : seqV h d = some ds) : ∃ p vs, v = .ref p ∧ (SqL K H p vs ∨ SqT K H p vs) ∧ Rps K F m ds vs := by
  cases d with
  | tup es =>
    obtain ⟨a, vs, rfl, s, q⟩ := rp_tup r
    cases e
    exact ⟨a, vs, rfl, .inr (SqT.mono rl.sub s), q⟩
  | scr ns =>
    obtain ⟨p, vs, rfl, e1, q⟩ := lstV_ok rl r (ds := ds) e
    exact ⟨p, vs, rfl, .inl e1, q⟩
  | lst es =>
    obtain ⟨p, vs, rfl, e1, q⟩ := lstV_ok rl r (ds := ds) e
    exact ⟨p, vs, rfl, .inl e1, q⟩
  | ref a =>
    obtain ⟨p, vs, rfl, e1, q⟩ := lstV_ok rl r (ds := ds) e
    exact ⟨p, vs, rfl, .inl e1, q⟩
  | _ => cases e

/-! ### results that are new -/
variable {XT : List Value} {W : Value → Option Addr → Hp → Prop}
abbrev ZV (K : PySem.W.Frag) (Q : VK) : Hp → List Addr → Hea → Hp → D → Prop := fun F' m' _ H' d => ∀ v, Rp K F' m' d v → Q v H'
theorem new_lst {n : Bool} {Q : VK} {ds : List D} {vs : List V} {p : Addr} (rl : Rel K G F m h H) (q : Pst K XT W G F m (mk n (some (.lst ds)) h) (ZV K Q)) (r : Rps K F m ds vs) (np : H p = none) : Q (.ref p) (upd H p (.lst vs)) := by
  have hF : F p = none := by
    cases e : F p with
    | none => rfl
    | some u => have := rl.sub p u e; rw [np] at this; cases this
  cases n with
  | false =>
    obtain ⟨rl', x⟩ := rl.newF (o := .lst vs) np
    exact q _ _ _ x rl' _ (mk_lst upd_same (Rps.mono x _ _ r))
  | true =>
    have x : Ext F m F (p :: m) := ⟨fun _ _ h => h, [p], rfl⟩
    obtain ⟨rl', x⟩ := rl.newC (c := .lst ds) (o := .lst vs) np ⟨hF, vs, upd_same, Rps.mono x _ _ r⟩ (by unfold cbelow; rw [← rl.len]; exact Rps.below r)
    exact q _ _ _ x rl' _ (mk_ref (by rw [← rl.len]; exact get_self))
theorem new_tup {n : Bool} {Q : VK} {ds : List D} {vs : List V} {p : Addr} (rl : Rel K G F m h H) (q : Pst K XT W G F m (mk n (some (.tup ds)) h) (ZV K Q)) (r : Rps K F m ds vs) (np : H p = none) : Q (.ref p) (upd H p (.tup vs)) := by
  obtain ⟨rl', x⟩ := rl.newF (o := .tup vs) np
  have q' : Pst K XT W G F m (.ok (.tup ds) h) (ZV K Q) := by cases n <;> exact q
  exact q' _ _ _ x rl' _ (mk_tup (.inl (.inl upd_same)) (Rps.mono x _ _ r))
theorem same_v {n : Bool} {Q : VK} {d : D} {v : V} (rl : Rel K G F m h H) (q : Pst K XT W G F m (mk n (some d) h) (ZV K Q)) (r : Rp K F m d v) (hd : ∀ ds, d ≠ .lst ds) (hk : ∀ ks vs, d ≠ .dic ks vs) : Q v H := by
  have q' : Pst K XT W G F m (.ok d h) (ZV K Q) := by
    cases n with
    | false => exact q
    | true =>
      cases d <;> first | exact q | exact absurd rfl (hd _) | exact absurd rfl (hk _ _)
  exact q' _ _ _ .refl rl _ r
end
end MP

set_option maxHeartbeats 1000000
/-! Freezing; deep data; operations on values. -/
namespace MP
open PySem PySem.Spec PyProof.Rows L2

theorem mapM_nil' {α β : Type} {f : α → Option β} : ([] : List α).mapM f = some [] := rfl
theorem mapM_cons' {α β : Type} {f : α → Option β} {a : α} {as : List α} {cs : List β} (h : (a :: as).mapM f = some cs) : ∃ b bs, f a = some b ∧ as.mapM f = some bs ∧ cs = b :: bs := by
  rw [List.mapM_cons] at h
  cases e1 : f a with
  | none => rw [e1] at h; cases h
  | some b =>
    rw [e1] at h
    cases e2 : as.mapM f with
    | none =>
      have h' : (as.mapM f).bind (fun bs => some (b :: bs)) = some cs := h
      rw [e2] at h'; cases h'
    | some bs =>
      have h' : (as.mapM f).bind (fun bs => some (b :: bs)) = some cs := h
      rw [e2] at h'
      exact ⟨b, bs, rfl, rfl, (Option.some.inj h').symm⟩

theorem belows_cons {n : Nat} {d : D} {ds : List D} (h : belows n (d :: ds) = true) : below n d = true ∧ belows n ds = true := by
  unfold belows at h; simpa using h
theorem below_tup {n : Nat} {ds : List D} (h : below n (.tup ds) = true) : belows n ds = true := by unfold below at h; exact h
theorem below_lst {n : Nat} {ds : List D} (h : below n (.lst ds) = true) : belows n ds = true := by unfold below at h; exact h
theorem below_dic {n : Nat} {ks ds : List D} (h : below n (.dic ks ds) = true) : belows n ks = true ∧ belows n ds = true := by unfold below at h; simpa using h
theorem below_ref {n a : Nat} (h : below n (.ref a) = true) : a < n := by unfold below at h; exact of_decide_eq_true h
mutual
theorem below_mono {n k : Nat} (l : n ≤ k) : ∀ {d : D}, below n d = true → below k d = true
  | .non, _ => by unfold below; rfl
  | .bl _, _ => by unfold below; rfl
  | .int _, _ => by unfold below; rfl
  | .str _, _ => by unfold below; rfl
  | .scr _, _ => by unfold below; rfl
  | .tup ds, h => by unfold below; exact belows_mono l (below_tup h)
  | .lst ds, h => by unfold below; exact belows_mono l (below_lst h)
  | .dic ks ds, h => by unfold below; rw [belows_mono l (below_dic h).1, belows_mono l (below_dic h).2]; rfl
  | .ref a, h => by unfold below; exact decide_eq_true (Nat.lt_of_lt_of_le (below_ref h) l)
theorem belows_mono {n k : Nat} (l : n ≤ k) : ∀ {ds : List D}, belows n ds = true → belows k ds = true
  | [], _ => by unfold belows; rfl
  | d :: ds, h => by unfold belows; rw [below_mono l (belows_cons h).1, belows_mono l (belows_cons h).2]; rfl
end

section
variable {K : PySem.W.Frag} {G F : Hp} {m : List Addr} {h : Hea} {H : Hp}
mutual
/-- another frozen part, another own heap, below n the same -/
theorem Rp.chg {G9 : Hp} {m' : List Addr} {n : Nat} (hF : ∀ p o, F p = some o → G9 p = some o) (hm : ∀ a p, a < n → MP.get m a = some p → MP.get m' a = some p) : ∀ {d : D} {v : V}, below n d = true → Rp K F m d v → Rp K G9 m' d v
  | .non, _, _, r => by rw [rp_non r]; exact mk_non
  | .bl _, _, _, r => by rw [rp_bl r]; exact mk_bl
  | .int _, _, _, r => by rw [rp_int r]; exact mk_int
  | .str _, _, _, r => by rw [rp_str r]; exact mk_str
  | .scr ns, _, _, r => by obtain ⟨a, rfl, s⟩ := rp_scr r; unfold Rp; exact ⟨a, rfl, SqL.mono hF s⟩
  | .tup ds, _, b, r => by obtain ⟨a, vs, rfl, s, q⟩ := rp_tup r; exact mk_tup (SqT.mono hF s) (Rps.chg hF hm (below_tup b) q)
  | .lst ds, _, b, r => by obtain ⟨a, vs, rfl, s, q⟩ := rp_lst r; exact mk_lst (hF _ _ s) (Rps.chg hF hm (below_lst b) q)
  | .dic ks ds, _, b, r => by
    obtain ⟨a, kvs, rfl, s, k, q⟩ := rp_dic r
    unfold Rp
    exact ⟨a, kvs, rfl, hF _ _ s, k, Rps.chg hF hm (below_dic b).2 q⟩
  | .ref a, _, b, r => by obtain ⟨p, rfl, g⟩ := rp_ref r; exact mk_ref (hm a p (below_ref b) g)
theorem Rps.chg {G9 : Hp} {m' : List Addr} {n : Nat} (hF : ∀ p o, F p = some o → G9 p = some o) (hm : ∀ a p, a < n → MP.get m a = some p → MP.get m' a = some p) : ∀ {ds : List D} {vs : List V}, belows n ds = true → Rps K F m ds vs → Rps K G9 m' ds vs
  | [], _, _, r => by rw [r.nil]; exact .mk0
  | d :: ds, _, b, r => by obtain ⟨v, q, rfl, r1, r2⟩ := r.cons; exact .mk (Rp.chg hF hm (belows_cons b).1 r1) (Rps.chg hF hm (belows_cons b).2 r2)
end

/-- what a frozen value stands for; its refs lie below n -/
theorem frz_ok {G9 : Hp} {n : Nat} {m' : List Addr} (rl : Rel K G F m h H) (hF : ∀ p o, F p = some o → G9 p = some o) (hm : ∀ a p, a < n → MP.get m a = some p → MP.get m' a = some p) :
    ∀ (k b : Nat), (∀ a p o, n ≤ a → a < b → MP.get m a = some p → H p = some o → G9 p = some o) → ∀ (d d' : D) (v : V), below b d = true → frz k h n d = some d' → Rp K F m d v → Rp K G9 m' d' v ∧ below n d' = true
  | 0, _, _, _, _, _, _, e, _ => by unfold frz at e; cases e
  | k + 1, b, hG, d, d', v, hb, e, r => by
    have list : ∀ (ds ds' : List D) (vs : List V) (b : Nat), (∀ a p o, n ≤ a → a < b → MP.get m a = some p → H p = some o → G9 p = some o) → belows b ds = true → ds.mapM (frz k h n) = some ds' → Rps K F m ds vs → Rps K G9 m' ds' vs ∧ belows n ds' = true := by
      intro ds
      induction ds with
      | nil => intro ds' vs b _ _ e r; cases e; rw [r.nil]; exact ⟨.mk0, by unfold belows; rfl⟩
      | cons d ds ih =>
        intro ds' vs b hG hb e r
        obtain ⟨x, xs, e1, e2, rfl⟩ := mapM_cons' e
        obtain ⟨v, q, rfl, r1, r2⟩ := r.cons
        obtain ⟨q1, q2⟩ := frz_ok rl hF hm k b hG d x v (belows_cons hb).1 e1 r1
        obtain ⟨q3, q4⟩ := ih xs q b hG (belows_cons hb).2 e2 r2
        exact ⟨.mk q1 q3, by unfold belows; rw [q2, q4]; rfl⟩
    have keys : ∀ (ks ks' : List D) (kvs : List (Key × V)), ks.mapM (frz k h n) = some ks' → ks.map keyOf = kvs.map (fun p => some p.1) → ks'.map keyOf = kvs.map (fun p => some p.1) ∧ belows n ks' = true := by
      intro ks
      induction ks with
      | nil => intro ks' kvs e q; cases e; exact ⟨q, by unfold belows; rfl⟩
      | cons d ds ih =>
        intro ks' kvs e q
        obtain ⟨x, xs, e1, e2, rfl⟩ := mapM_cons' e
        cases kvs with
        | nil => simp at q
        | cons p kvs =>
          simp only [List.map_cons, List.cons.injEq] at q
          obtain ⟨q1, q2⟩ := ih xs kvs e2 q.2
          have hx : x = d := by
            cases k with
            | zero => unfold frz at e1; cases e1
            | succ k =>
              have q3 := q.1
              cases d <;> first | (simp [keyOf] at q3; done) | (unfold frz at e1; exact (Option.some.inj e1).symm)
          subst hx
          refine ⟨by rw [List.map_cons, List.map_cons, q.1, q1], ?_⟩
          unfold belows
          rw [q2, Bool.and_true]
          have q3 := q.1
          cases x <;> first | (simp [keyOf] at q3; done) | (unfold below; rfl)
    cases d with
    | ref a =>
      obtain ⟨p, rfl, g⟩ := rp_ref r
      unfold frz at e
      by_cases ha : a < n
      · rw [if_pos ha] at e
        cases e
        exact ⟨mk_ref (hm a p ha g), by unfold below; exact decide_eq_true ha⟩
      · rw [if_neg ha] at e
        have hab := below_ref hb
        have hG' : ∀ a' p o, n ≤ a' → a' < a → MP.get m a' = some p → H p = some o → G9 p = some o := fun a' p o h1 h2 => hG a' p o h1 (Nat.lt_trans h2 hab)
        cases hc : MP.get h a with
        | none => rw [hc] at e; cases e
        | some c =>
          rw [hc] at e
          obtain ⟨cr, cb⟩ := rl.cell a c p hc g
          cases c with
          | lst ds =>
            obtain ⟨_, vs, e1, q⟩ := cr
            obtain ⟨ds', e2, rfl⟩ := Option.map_eq_some_iff.mp e
            obtain ⟨q1, q2⟩ := list ds ds' vs a hG' cb e2 q
            exact ⟨mk_lst (hG a p _ (Nat.le_of_not_lt ha) hab g e1) q1, by unfold below; exact q2⟩
          | dic ks ds =>
            obtain ⟨_, kvs, e1, kk, q⟩ := cr
            obtain ⟨ks', e2, e3⟩ := Option.bind_eq_some_iff.mp e
            obtain ⟨ds', e4, rfl⟩ := Option.map_eq_some_iff.mp e3
            unfold cbelow at cb
            rw [Bool.and_eq_true] at cb
            obtain ⟨q1, q2⟩ := list ds ds' _ a hG' cb.2 e4 q
            obtain ⟨q3, q4⟩ := keys ks ks' kvs e2 kk
            refine ⟨?_, by unfold below; rw [q2, q4]; rfl⟩
            unfold Rp
            exact ⟨p, kvs, rfl, hG a p _ (Nat.le_of_not_lt ha) hab g e1, q3, q1⟩
          | dead => cases e
    | tup ds =>
      obtain ⟨a, vs, rfl, s, q⟩ := rp_tup r
      unfold frz at e
      obtain ⟨ds', e2, rfl⟩ := Option.map_eq_some_iff.mp e
      obtain ⟨q1, q2⟩ := list ds ds' vs b hG (below_tup hb) e2 q
      exact ⟨mk_tup (SqT.mono hF s) q1, by unfold below; exact q2⟩
    | lst ds =>
      obtain ⟨a, vs, rfl, s, q⟩ := rp_lst r
      unfold frz at e
      obtain ⟨ds', e2, rfl⟩ := Option.map_eq_some_iff.mp e
      obtain ⟨q1, q2⟩ := list ds ds' vs b hG (below_lst hb) e2 q
      exact ⟨mk_lst (hF _ _ s) q1, by unfold below; exact q2⟩
    | dic ks ds =>
      obtain ⟨a, kvs, rfl, s, kk, q⟩ := rp_dic r
      unfold frz at e
      obtain ⟨ks', e2, e3⟩ := Option.bind_eq_some_iff.mp e
      obtain ⟨ds', e4, rfl⟩ := Option.map_eq_some_iff.mp e3
      obtain ⟨q1, q2⟩ := list ds ds' _ b hG (below_dic hb).2 e4 q
      obtain ⟨q3, q4⟩ := keys ks ks' kvs e2 kk
      refine ⟨?_, by unfold below; rw [q2, q4]; rfl⟩
      unfold Rp
      exact ⟨a, kvs, rfl, hF _ _ s, q3, q1⟩
    | scr ns =>
      unfold frz at e; cases e
      obtain ⟨a, rfl, s⟩ := rp_scr r
      unfold Rp below
      exact ⟨⟨a, rfl, SqL.mono hF s⟩, rfl⟩
    | non => unfold frz at e; cases e; rw [rp_non r]; exact ⟨mk_non, by unfold below; rfl⟩
    | bl _ => unfold frz at e; cases e; rw [rp_bl r]; exact ⟨mk_bl, by unfold below; rfl⟩
    | int _ => unfold frz at e; cases e; rw [rp_int r]; exact ⟨mk_int, by unfold below; rfl⟩
    | str _ => unfold frz at e; cases e; rw [rp_str r]; exact ⟨mk_str, by unfold below; rfl⟩
theorem frzN_ok {G9 : Hp} {n b : Nat} {m' : List Addr} (rl : Rel K G F m h H) (hF : ∀ p o, F p = some o → G9 p = some o) (hm : ∀ a p, a < n → MP.get m a = some p → MP.get m' a = some p)
    (hG : ∀ a p o, n ≤ a → a < b → MP.get m a = some p → H p = some o → G9 p = some o) {d d' : D} {v : V} (hb : below b d = true) (e : frzN h n d = some d') (r : Rp K F m d v) : Rp K G9 m' d' v ∧ below n d' = true := by
  unfold frzN at e
  split at e
  · rename_i q; cases e; exact ⟨Rp.chg hF hm q r, q⟩
  · exact frz_ok rl hF hm 40 b hG d d' v hb e r
theorem frzN_all {G9 : Hp} {n b : Nat} {m' : List Addr} (rl : Rel K G F m h H) (hF : ∀ p o, F p = some o → G9 p = some o) (hm : ∀ a p, a < n → MP.get m a = some p → MP.get m' a = some p)
    (hG : ∀ a p o, n ≤ a → a < b → MP.get m a = some p → H p = some o → G9 p = some o) : ∀ {ds ds' : List D} {vs : List V}, belows b ds = true → ds.mapM (frzN h n) = some ds' → Rps K F m ds vs → Rps K G9 m' ds' vs ∧ belows n ds' = true
  | [], _, _, _, e, r => by cases e; rw [r.nil]; exact ⟨.mk0, by unfold belows; rfl⟩
  | d :: ds, _, _, hb, e, r => by
    obtain ⟨x, xs, e1, e2, rfl⟩ := mapM_cons' e
    obtain ⟨v, q, rfl, r1, r2⟩ := r.cons
    obtain ⟨q1, q2⟩ := frzN_ok rl hF hm hG (belows_cons hb).1 e1 r1
    obtain ⟨q3, q4⟩ := frzN_all rl hF hm hG (belows_cons hb).2 e2 r2
    exact ⟨.mk q1 q3, by unfold belows; rw [q2, q4]; rfl⟩
/-- read at once -/
theorem rsv_ok {d d' : D} {v : V} (rl : Rel K G F m h H) (e : rsv h d = some d') (r : Rp K F m d v) : Rp K H [] d' v ∧ below 0 d' = true :=
  frzN_ok (G9 := H) (n := 0) (b := m.length) (m' := []) rl rl.sub (fun a p l => absurd l (Nat.not_lt_zero _)) (fun a p o _ _ _ q => q) (Rp.below r) e r
end

/-! ### data -/
mutual
theorem toDp {K : PySem.W.Frag} {H : Hp} {m : List Addr} : ∀ {d : D} {v : V}, lay d = true → Rp K H m d v → Dp K H v (toPy d)
  | .non, _, _, r => by rw [rp_non r]; unfold toPy; exact .non
  | .bl _, _, _, r => by rw [rp_bl r]; unfold toPy; exact .bl _
  | .int _, _, _, r => by rw [rp_int r]; unfold toPy; exact .int _
  | .str _, _, _, r => by rw [rp_str r]; unfold toPy; exact .str _
  | .scr ns, _, l, r => by
    obtain ⟨a, rfl, s⟩ := rp_scr r
    unfold toPy
    refine .lst s ?_
    clear s r l
    induction ns with
    | nil => exact .nil
    | cons n ns ih => exact .cons (.int n) ih
  | .tup ds, _, l, r => by
    obtain ⟨a, vs, rfl, s, q⟩ := rp_tup r
    unfold toPy
    refine .tup s (toDps (show PyData.canLayAll0 (toPys ds) = true from ?_) q)
    unfold lay toPy at l; unfold PyData.canLay0 at l; exact l
  | .lst ds, _, l, r => by
    obtain ⟨a, vs, rfl, s, q⟩ := rp_lst r
    unfold toPy
    refine .lst (.inl (.inl s)) (toDps (show PyData.canLayAll0 (toPys ds) = true from ?_) q)
    unfold lay toPy at l; unfold PyData.canLay0 at l; exact l
  | .dic _ _, _, l, _ => by unfold lay toPy at l; unfold PyData.canLay0 at l; cases l
  | .ref _, _, l, _ => by unfold lay toPy at l; unfold PyData.canLay0 at l; cases l
theorem toDps {K : PySem.W.Frag} {H : Hp} {m : List Addr} : ∀ {ds : List D} {vs : List V}, PyData.canLayAll0 (toPys ds) = true → Rps K H m ds vs → DpAll K H vs (toPys ds)
  | [], _, _, r => by rw [r.nil]; unfold toPys; exact .nil
  | d :: ds, _, l, r => by
    obtain ⟨v, q, rfl, r1, r2⟩ := r.cons
    unfold toPys at l ⊢
    unfold PyData.canLayAll0 at l
    rw [Bool.and_eq_true] at l
    exact .cons (toDp l.1 r1) (toDps l.2 r2)
end
section
variable {X : Cx} {pins : List (Addr × Obj)} {s : Shared} {σ : Stt} {G F : Hp} {m : List Addr} {h : Hea} {H : Hp}
theorem eqOk_room {a b : D} (hu : X.A.units + 66 < cLine) (e : eqOk a b = true) : lay a = true ∧ lay b = true ∧ X.A.units + min (toPy a).depth (toPy b).depth < cLine := by
  unfold eqOk at e
  simp only [Bool.and_eq_true, Bool.or_eq_true, decide_eq_true_eq] at e
  obtain ⟨⟨h1, h2⟩, h3⟩ := e
  refine ⟨h1, h2, ?_⟩
  unfold dep at h3
  have h4 := Nat.min_le_left (toPy a).depth (toPy b).depth
  have h5 := Nat.min_le_right (toPy a).depth (toPy b).depth
  omega
theorem eqH_ok {a b : D} {k : Bool} (hu : X.A.units + 66 < cLine) (I : L2.Inv X pins σ H s) (rl : Rel X.K G F m h H) {x y : V} {v u : Value} (rx : RelV x v) (ry : RelV y u) (ra : Rp X.K F m a x) (rb : Rp X.K F m b y) (e : eqH h a b = some k) {Q : Value → Shared → Prop} :
    (Q (.bool k) s → wpAny (model X.prog X.w) X.A (compareOp .Eq v u) Q X.xe s) ∧ (Q (.bool (!k)) s → wpAny (model X.prog X.w) X.A (compareOp .NotEq v u) Q X.xe s) := by
  unfold eqH at e
  cases e1 : rsv h a with
  | none => rw [e1] at e; cases e
  | some a' =>
    cases e2 : rsv h b with
    | none => rw [e1, e2] at e; cases e
    | some b' =>
      rw [e1, e2] at e
      simp only at e
      split at e
      · rename_i ok
        cases e
        obtain ⟨l1, l2, rm⟩ := eqOk_room hu ok
        obtain ⟨as, r1⟩ := Dp.reads I _ _ _ (toDp l1 (rsv_ok rl e1 ra).1) rx
        obtain ⟨bs, r2⟩ := Dp.reads I _ _ _ (toDp l2 (rsv_ok rl e2 rb).1) ry
        exact ⟨fun q => SeqAt.compareEq_reads r1 r2 l1 l2 rm q, fun q => SeqAt.compareNe_reads r1 r2 l1 l2 rm q⟩
      · cases e
theorem any_toPys (x : D) : ∀ ys : List D, (toPys ys).any (fun z => PyData.eqv z (toPy x)) = ys.any fun y => eqv y x
  | [] => by unfold toPys; rfl
  | y :: ys => by unfold toPys; rw [List.any_cons, List.any_cons, any_toPys x ys]; rfl
theorem inH_ok {a b : D} {k : Bool} (hu : X.A.units + 66 < cLine) (I : L2.Inv X pins σ H s) (rl : Rel X.K G F m h H) {x y : V} {v u : Value} (rx : RelV x v) (ry : RelV y u) (ra : Rp X.K F m a x) (rb : Rp X.K F m b y) (e : inH h a b = some k) {Q : Value → Shared → Prop} :
    (Q (.bool k) s → wpAny (model X.prog X.w) X.A (compareOp .In v u) Q X.xe s) ∧ (Q (.bool (!k)) s → wpAny (model X.prog X.w) X.A (compareOp .NotIn v u) Q X.xe s) := by
  unfold inH at e
  cases e1 : rsv h a with
  | none => rw [e1] at e; cases e
  | some a' =>
    cases e2 : rsv h b with
    | none => rw [e1, e2] at e; cases e
    | some b' =>
      rw [e1, e2] at e
      have ra' := (rsv_ok rl e1 ra).1
      have rb' := (rsv_ok rl e2 rb).1
      have room : ∀ ys : List D, dep a' ≤ 64 → X.A.units + 1 + min (PyData.depthAll (toPys ys)) (toPy a').depth < cLine := fun ys q => by
        have h5 := Nat.min_le_right (PyData.depthAll (toPys ys)) (toPy a').depth
        unfold dep at q
        omega
      cases b' with
      | tup ys =>
        simp only at e
        split at e
        · rename_i ok
          cases e
          simp only [Bool.and_eq_true, decide_eq_true_eq] at ok
          obtain ⟨⟨l1, l2⟩, l3⟩ := ok
          obtain ⟨as, r1⟩ := Dp.reads I _ _ _ (toDp l1 ra') rx
          obtain ⟨bs, r2⟩ := Dp.reads I _ _ _ (toDp l2 rb') ry
          unfold lay toPy at l2
          unfold PyData.canLay0 at l2
          unfold toPy at r2
          rw [← any_toPys]
          exact ⟨fun q => SeqAt.in_tuple_reads r2 r1 l2 l1 (room ys l3) q, fun q => SeqAt.notIn_tuple_reads r2 r1 l2 l1 (room ys l3) q⟩
        · cases e
      | lst ys =>
        simp only at e
        split at e
        · rename_i ok
          cases e
          simp only [Bool.and_eq_true, decide_eq_true_eq] at ok
          obtain ⟨⟨l1, l2⟩, l3⟩ := ok
          obtain ⟨as, r1⟩ := Dp.reads I _ _ _ (toDp l1 ra') rx
          obtain ⟨bs, r2⟩ := Dp.reads I _ _ _ (toDp l2 rb') ry
          unfold lay toPy at l2
          unfold PyData.canLay0 at l2
          unfold toPy at r2
          rw [← any_toPys]
          exact ⟨fun q => SeqAt.in_list_reads r2 r1 l2 l1 (room ys l3) q, fun q => SeqAt.notIn_list_reads r2 r1 l2 l1 (room ys l3) q⟩
        · cases e
      | _ => cases e
end
end MP

set_option maxHeartbeats 1000000
/-! Operations over the hand layer. -/
namespace MP
open PySem PySem.Spec PyProof.Rows L2

theorem SLe : SL = sizeLine := by rw [sizeLine_eq]; rfl
theorem strLen {x : List Nat} : (strOfL x).length = x.length := by simp [strOfL, Str.length]
theorem strApp {x y : List Nat} : strOfL x ++ strOfL y = strOfL (x ++ y) := by
  show Str.append (strOfL x) (strOfL y) = _
  simp [Str.append, strOfL]
theorem plc_at {α : Type} {xs : List α} {i : Int} {v : α} (h : ((plc xs.length i).bind fun j => xs[j]?) = some v) : L2.atI xs i = some v := h
theorem plc_ix {n : Nat} {i : Int} : plc n i = L2.ixN n i := rfl
theorem sIx_eq {n d : Nat} {o : Option Int} (hd : d ≤ n) : sIx n d o = HT.sIx n d o := by
  cases o with
  | none => rfl
  | some v =>
    have e := HT.clip_eq v n d
    show (if v < 0 then (max (v + n) 0).toNat else min v.toNat n) = _
    split at e
    · rename_i q
      rw [if_pos q]
      have := HT.sIx_le n d hd (some v)
      omega
    · rename_i q
      rw [if_neg q]
      have : ((min v.toNat n : Nat) : Int) = min v (n : Int) := by omega
      omega
theorem cut_eq {xs : List V} {lo hi : Option Int} : cut xs lo hi = cutV xs lo hi := by
  unfold cut cutV
  rw [sIx_eq (Nat.zero_le _), sIx_eq (Nat.le_refl _)]

section
variable {X : Cx} {XT : List Value} {n : Bool}
def rB (K : PySem.W.Frag) (XT : List Value) (n : Bool) (o : BOp) : R2 := fun x y H Q => ∃ G F m h W a b, Rel K G F m h H ∧ Rp K F m a x ∧ Rp K F m b y ∧ Pst K XT W G F m (mk n (bop o h a b) h) (ZV K Q)
theorem mk_some {K : PySem.W.Frag} {XT : List Value} {W : Value → Option Addr → Hp → Prop} {G F : Hp} {m : List Addr} {h : Hea} {o : Option D} {Z : Hp → List Addr → Hea → Hp → D → Prop} (p : Pst K XT W G F m (mk n o h) Z) : ∃ d, o = some d ∧ Pst K XT W G F m (mk n (some d) h) Z := by
  cases o with
  | none => exact p.elim
  | some d => exact ⟨d, rfl, p⟩
def opOf : BOp → Operator
  | .add => .Add | .sub => .Sub | .mul => .Mult | .fdiv => .FloorDiv | .mod => .Mod | .pow => .Pow | .shl => .LShift | .shr => .RShift | .band => .BitAnd | .bor => .BitOr | .bxor => .BitXor

section
variable {K : PySem.W.Frag} {W : Value → Option Addr → Hp → Prop} {G F : Hp} {m : List Addr} {h : Hea} {H : Hp} {Q : VK}
theorem q_int {i : Int} (rl : Rel K G F m h H) (p : Pst K XT W G F m (mk n (some (.int i)) h) (ZV K Q)) : Q (.int i) H := same_v rl p mk_int (fun _ z => nomatch z) (fun _ _ z => nomatch z)
theorem q_bl {i : Bool} (rl : Rel K G F m h H) (p : Pst K XT W G F m (mk n (some (.bl i)) h) (ZV K Q)) : Q (.bl i) H := same_v rl p mk_bl (fun _ z => nomatch z) (fun _ _ z => nomatch z)
theorem q_str {i : List Nat} (rl : Rel K G F m h H) (p : Pst K XT W G F m (mk n (some (.str i)) h) (ZV K Q)) : Q (.str (strOfL i)) H := same_v rl p mk_str (fun _ z => nomatch z) (fun _ _ z => nomatch z)
end

theorem i2_inv {f : Int → Int → Option D} {a b d : D} (e : i2 f a b = some d) : ∃ i j, a = .int i ∧ b = .int j ∧ f i j = some d := by
  unfold i2 at e
  split at e
  · exact ⟨_, _, rfl, rfl, e⟩
  · cases e
theorem small_ok {i : Int} (e : small i = true) : -(2 ^ 64) < i ∧ i < 2 ^ 64 := by
  unfold small M64 at e
  simp only [Bool.and_eq_true, decide_eq_true_eq] at e
  exact e
theorem Rps.rep {K : PySem.W.Frag} {F : Hp} {m : List Addr} {ds : List D} {vs : List V} (h : Rps K F m ds vs) : ∀ k : Nat, Rps K F m (MP.rep k ds) (List.replicate k vs).flatten
  | 0 => .mk0
  | k + 1 => by
    have := h.app (h.rep k)
    unfold MP.rep at this ⊢
    rw [List.replicate_succ, List.flatten_cons, List.replicate_succ, List.flatten_cons]
    exact this
theorem op_bin (o : BOp) : OpR X (binaryOp (opOf o)) (rB X.K XT n o) := by
  intro pins s σ H x y v u Q I rx ry hh
  obtain ⟨G, F, m, h, W, a, b, rl, ra, rb, p⟩ := hh
  obtain ⟨d, e, p⟩ := mk_some p
  cases o with
  | add =>
    have e : bAdd h a b = some d := e
    unfold bAdd at e
    split at e
    · cases e
      exact op_add pins s σ H x y v u Q I rx ry ⟨_, _, rp_int ra, rp_int rb, q_int rl p⟩
    · split at e
      · cases e
        refine op_add_str pins s σ H x y v u Q I rx ry ⟨_, _, rp_str ra, rp_str rb, ?_, ?_⟩
        · rw [strLen, strLen, ← SLe]; assumption
        · rw [strApp]; exact q_str rl p
      · cases e
    · split at e
      · rename_i hz
        cases e
        obtain ⟨a1, vs, rfl, s1, q1⟩ := rp_tup ra
        obtain ⟨a2, ws, rfl, s2, q2⟩ := rp_tup rb
        have l1 := q1.len
        have l2 := q2.len
        refine op_catA pins s σ H _ _ v u Q I rx ry ⟨a1, a2, vs, ws, rfl, rfl, SqT.mono rl.sub s1, SqT.mono rl.sub s2, by rw [← SLe, ← l1, ← l2]; exact hz, fun e1 => ?_, fun e1 e2 => ?_, fun e1 e2 q np => ?_⟩
        · subst e1
          have e1 := List.eq_nil_of_length_eq_zero l1
          subst e1
          exact same_v rl p rb (fun _ z => nomatch z) (fun _ _ z => nomatch z)
        · subst e2
          have e2 := List.eq_nil_of_length_eq_zero l2
          subst e2
          rw [List.append_nil] at p
          exact same_v rl p ra (fun _ z => nomatch z) (fun _ _ z => nomatch z)
        · exact new_tup rl p (q1.app q2) np
      · cases e
    · split at e
      · rename_i x1 y1 w1 w2
        split at e
        · rename_i hz
          cases e
          obtain ⟨p1, vs, rfl, h1, q1⟩ := lstW_ok rl ra w1
          obtain ⟨p2, ws, rfl, h2, q2⟩ := lstW_ok rl rb w2
          have l1 := q1.len
          have l2 := q2.len
          exact op_cat pins s σ H _ _ v u Q I rx ry ⟨p1, p2, vs, ws, rfl, rfl, h1, h2, by rw [← SLe, ← l1, ← l2]; exact hz, fun q np => new_lst rl p (q1.app q2) np⟩
        · cases e
      · cases e
  | mul =>
    have e : bMul h a b = some d := e
    unfold bMul at e
    split at e
    · split at e
      · rename_i c
        cases e
        refine op_mul pins s σ H x y v u Q I rx ry ⟨_, _, rp_int ra, rp_int rb, ?_, q_int rl p⟩
        rw [Bool.or_eq_true] at c
        exact c.imp small_ok small_ok
      · cases e
    · split at e
      · rename_i k0
        cases e
        have h1 := rp_str ra
        have h2 := rp_int rb
        subst h1 h2 k0
        obtain ⟨t1, rfl⟩ := rx
        obtain ⟨t2, rfl⟩ := ry
        exact PySem.P.mul_str_none (by decide) (by decide) ⟨.str Str.empty, H, I.tok _, ⟨_, rfl⟩, q_str (i := []) rl p⟩
      · split at e
        · rename_i k1
          cases e
          have h1 := rp_str ra
          have h2 := rp_int rb
          subst h1 h2 k1
          obtain ⟨t1, rfl⟩ := rx
          obtain ⟨t2, rfl⟩ := ry
          exact PySem.P.mul_str (by decide) (fun _ z => by simp at z) (fun _ z => by simp at z) (by rw [if_neg (by decide), if_pos (by simp)]; exact ⟨.str _, H, I, ⟨_, rfl⟩, q_str rl p⟩)
        · cases e
    · split at e
      · rename_i w1
        split at e
        · rename_i hz
          cases e
          obtain ⟨p1, vs, rfl, h1, q1⟩ := lstW_ok rl ra w1
          have l1 := q1.len
          exact op_rep pins s σ H _ _ v u Q I rx ry ⟨p1, _, vs, rfl, rp_int rb, h1, hz.1, hz.2.1, by rw [← SLe, ← l1]; exact hz.2.2, fun q np => new_lst rl p (q1.rep _) np⟩
        · cases e
      · cases e
    · cases e
  | sub =>
    obtain ⟨i, j, rfl, rfl, e⟩ := i2_inv e
    cases e
    exact op_sub pins s σ H x y v u Q I rx ry ⟨_, _, rp_int ra, rp_int rb, q_int rl p⟩
  | fdiv =>
    obtain ⟨i, j, rfl, rfl, e2⟩ := i2_inv e
    try dsimp only at e2
    split at e2
    · rename_i c
      cases e2
      exact op_fdivN pins s σ H x y v u Q I rx ry ⟨_, _, rp_int ra, rp_int rb, c, q_int rl p⟩
    · cases e2
  | mod =>
    obtain ⟨i, j, rfl, rfl, e2⟩ := i2_inv e
    try dsimp only at e2
    split at e2
    · rename_i c
      cases e2
      exact op_modN pins s σ H x y v u Q I rx ry ⟨_, _, rp_int ra, rp_int rb, c, q_int rl p⟩
    · cases e2
  | pow =>
    obtain ⟨i, j, rfl, rfl, e2⟩ := i2_inv e
    try dsimp only at e2
    split at e2
    · rename_i c
      cases e2
      exact op_pow pins s σ H x y v u Q I rx ry ⟨_, _, rp_int ra, rp_int rb, c, q_int rl p⟩
    · cases e2
  | shl =>
    obtain ⟨i, j, rfl, rfl, e2⟩ := i2_inv e
    try dsimp only at e2
    split at e2
    · rename_i c
      cases e2
      exact op_shl pins s σ H x y v u Q I rx ry ⟨_, _, rp_int ra, rp_int rb, c, q_int rl p⟩
    · cases e2
  | shr =>
    obtain ⟨i, j, rfl, rfl, e2⟩ := i2_inv e
    try dsimp only at e2
    split at e2
    · rename_i c
      cases e2
      exact op_shr pins s σ H x y v u Q I rx ry ⟨_, _, rp_int ra, rp_int rb, c, q_int rl p⟩
    · cases e2
  | band =>
    obtain ⟨i, j, rfl, rfl, e⟩ := i2_inv e
    cases e
    exact op_and pins s σ H x y v u Q I rx ry ⟨_, _, rp_int ra, rp_int rb, q_int rl p⟩
  | bor =>
    obtain ⟨i, j, rfl, rfl, e⟩ := i2_inv e
    cases e
    exact op_or pins s σ H x y v u Q I rx ry ⟨_, _, rp_int ra, rp_int rb, q_int rl p⟩
  | bxor =>
    obtain ⟨i, j, rfl, rfl, e⟩ := i2_inv e
    cases e
    exact op_xor pins s σ H x y v u Q I rx ry ⟨_, _, rp_int ra, rp_int rb, q_int rl p⟩

/-! ### comparisons -/
def rC (K : PySem.W.Frag) (o : COp) : R2 := fun x y H Q => ∃ G F m h a b d, Rel K G F m h H ∧ Rp K F m a x ∧ Rp K F m b y ∧ cop o h a b = some d ∧ ∀ v, Rp K F m d v → Q v H
def copOf : COp → CmpOp
  | .eq => .Eq | .ne => .NotEq | .lt => .Lt | .le => .LtE | .gt => .Gt | .ge => .GtE | .isN => .Is | .notN => .IsNot | .isB => .Is | .notB => .IsNot | .inn => .In | .notin => .NotIn
theorem intsL_ok {K : PySem.W.Frag} {F : Hp} {m : List Addr} : ∀ {ds : List D} {vs : List V} {ns : List Int}, intsL ds = some ns → Rps K F m ds vs → vs = ns.map .int
  | [], _, _, e, r => by cases e; rw [r.nil]; rfl
  | d :: ds, vs, ns, e, r => by
    obtain ⟨v, q, rfl, r1, r2⟩ := r.cons
    cases d with
    | int i =>
      unfold intsL at e
      obtain ⟨ns', e1, rfl⟩ := Option.map_eq_some_iff.mp e
      rw [rp_int r1, intsL_ok e1 r2]; rfl
    | _ => cases e
theorem lexLt_eq : ∀ (x y : List Int), lexLt x y = HT.lexLt x y
  | [], [] => rfl
  | [], _ :: _ => rfl
  | _ :: _, [] => rfl
  | x :: xs, y :: ys => by unfold lexLt HT.lexLt; rw [lexLt_eq xs ys]
theorem non_dec {K : PySem.W.Frag} {F : Hp} {m : List Addr} {a : D} {x : V} (r : Rp K F m a x) : decide (x = V.non) = isNon a := by
  cases a with
  | non => rw [rp_non r]; rfl
  | bl _ => rw [rp_bl r]; rfl
  | int _ => rw [rp_int r]; rfl
  | str _ => rw [rp_str r]; rfl
  | tup _ => obtain ⟨_, _, rfl, _⟩ := rp_tup r; rfl
  | lst _ => obtain ⟨_, _, rfl, _⟩ := rp_lst r; rfl
  | dic _ _ => obtain ⟨_, _, rfl, _⟩ := rp_dic r; rfl
  | ref _ => obtain ⟨_, rfl, _⟩ := rp_ref r; rfl
  | scr _ => obtain ⟨_, rfl, _⟩ := rp_scr r; rfl
theorem op_cmp (hu : X.A.units + 66 < cLine) (o : COp) : OpR X (compareOp (copOf o)) (rC X.K o) := by
  intro pins s σ H x y v u Q I rx ry hh
  obtain ⟨G, F, m, h, a, b, d, rl, ra, rb, e, q⟩ := hh
  have fin : ∀ {k : Bool}, d = .bl k → EP X pins σ Q (.bool k) s := fun {k} z => ⟨.bl k, H, I, rfl, q _ (by rw [z]; exact mk_bl)⟩
  have map_inv : ∀ {o : Option Bool} {g : Bool → D}, o.map g = some d → ∃ k, o = some k ∧ d = g k := fun z => by
    obtain ⟨k, e1, e2⟩ := Option.map_eq_some_iff.mp z
    exact ⟨k, e1, e2.symm⟩
  cases o with
  | eq =>
    obtain ⟨k, e1, rfl⟩ := map_inv (show (eqH h a b).map .bl = some d from e)
    exact (eqH_ok hu I rl rx ry ra rb e1).1 (fin rfl)
  | ne =>
    obtain ⟨k, e1, rfl⟩ := map_inv (show (eqH h a b).map (fun c => .bl !c) = some d from e)
    exact (eqH_ok hu I rl rx ry ra rb e1).2 (fin rfl)
  | inn =>
    obtain ⟨k, e1, rfl⟩ := map_inv (show (inH h a b).map .bl = some d from e)
    exact (inH_ok hu I rl rx ry ra rb e1).1 (fin rfl)
  | notin =>
    obtain ⟨k, e1, rfl⟩ := map_inv (show (inH h a b).map (fun c => .bl !c) = some d from e)
    exact (inH_ok hu I rl rx ry ra rb e1).2 (fin rfl)
  | lt =>
    obtain ⟨k, e1, rfl⟩ := map_inv (show (ltT a b).map .bl = some d from e)
    unfold ltT at e1
    split at e1
    · cases e1
      exact op_lt pins s σ H x y v u Q I rx ry ⟨_, _, rp_int ra, rp_int rb, q _ mk_bl⟩
    · cases e1
      rename_i i j
      have ex : x = .bl i := ra
      have ey : y = .bl j := rb
      subst ex ey
      have rx : v = .bool i := rx
      have ry : u = .bool j := ry
      subst rx ry
      exact PyProof.Rows.lt_bool (fin_bl I (q _ mk_bl) (by cases i <;> cases j <;> rfl))
    · split at e1
      · rename_i x1 y1 w1 w2
        cases e1
        obtain ⟨a1, vs, rfl, s1, q1⟩ := rp_tup ra
        obtain ⟨a2, ws, rfl, s2, q2⟩ := rp_tup rb
        rw [intsL_ok w1 q1] at s1
        rw [intsL_ok w2 q2] at s2
        rw [lexLt_eq] at q
        exact op_ltT (by omega) pins s σ H _ _ v u Q I rx ry ⟨a1, a2, _, _, rfl, rfl, SqT.mono rl.sub s1, SqT.mono rl.sub s2, q _ mk_bl⟩
      · cases e1
    · cases e1
  | gt =>
    unfold cop at e
    try dsimp only at e
    split at e
    · cases e; exact op_gt pins s σ H x y v u Q I rx ry ⟨_, _, rp_int ra, rp_int rb, q _ mk_bl⟩
    · cases e
  | le =>
    unfold cop at e
    try dsimp only at e
    split at e
    · cases e; exact op_le pins s σ H x y v u Q I rx ry ⟨_, _, rp_int ra, rp_int rb, q _ mk_bl⟩
    · cases e
  | ge =>
    unfold cop at e
    try dsimp only at e
    split at e
    · cases e; exact op_ge pins s σ H x y v u Q I rx ry ⟨_, _, rp_int ra, rp_int rb, q _ mk_bl⟩
    · cases e
  | isN =>
    unfold cop at e
    try dsimp only at e
    split at e
    · cases e
      refine op_isN pins s σ H x y v u Q I rx ry ⟨rp_non rb, ?_⟩
      rw [non_dec ra]; exact q _ mk_bl
    · cases e
  | notN =>
    unfold cop at e
    try dsimp only at e
    split at e
    · cases e
      refine op_notN pins s σ H x y v u Q I rx ry ⟨rp_non rb, ?_⟩
      rw [non_dec ra]; exact q _ mk_bl
    · cases e
  | isB =>
    unfold cop at e
    try dsimp only at e
    split at e
    · cases e
      exact op_isBl pins s σ H x y v u Q I rx ry ⟨_, _, rp_bl ra, rp_bl rb, q _ mk_bl⟩
    · cases e
  | notB =>
    unfold cop at e
    try dsimp only at e
    split at e
    · cases e
      exact op_notBl pins s σ H x y v u Q I rx ry ⟨_, _, rp_bl ra, rp_bl rb, q _ mk_bl⟩
    · cases e
end
end MP

set_option maxHeartbeats 1000000
/-! Subscripts, slices, built-ins, methods, stores. -/
namespace MP
open PySem PySem.Spec PyProof.Rows L2

theorem strOfL_inj {x y : List Nat} (e : strOfL x = strOfL y) : x = y := by
  unfold strOfL at e
  injection e with e
  simpa using congrArg Array.toList e
theorem keyOf_some {k : D} (e : isKey k = true) : ∃ κ, keyOf k = some κ := by cases k <;> first | exact ⟨_, rfl⟩ | cases e
theorem keyEq_iff {a b : D} {κ κ' : Key} (ha : keyOf a = some κ) (hb : keyOf b = some κ') : keyEq a b = decide (κ = κ') := by
  cases a <;> cases ha <;> cases b <;> cases hb
  · simp [keyEq]
  · simp [keyEq]
  · simp [keyEq]
  · rename_i x y
    show decide (x = y) = _
    by_cases e : x = y
    · subst e; simp
    · rw [decide_eq_false e, decide_eq_false]
      intro z; injection z with z; exact e (strOfL_inj z)
section
variable {K : PySem.W.Frag} {G F : Hp} {m : List Addr} {h : Hea} {H : Hp}
theorem key_v {k : D} {κ : Key} {v : V} (e : keyOf k = some κ) (r : Rp K F m k v) : v = kV κ := by
  cases k <;> cases e
  · exact rp_int r
  · exact rp_str r
theorem dGet_ok {k d : D} {κ : Key} (ek : keyOf k = some κ) : ∀ {ks ds : List D} {kvs : List (Key × V)}, dGet k ks ds = some d → ks.map keyOf = kvs.map (fun p => some p.1) → Rps K F m ds (kvs.map (·.2)) → ∃ v, valV kvs κ = some v ∧ Rp K F m d v
  | [], _, _, e, _, _ => by unfold dGet at e; cases e
  | k' :: ks, [], _, e, _, _ => by unfold dGet at e; cases e
  | k' :: ks, d' :: ds, [], _, q, _ => by simp at q
  | k' :: ks, d' :: ds, p :: kvs, e, q, r => by
    simp only [List.map_cons, List.cons.injEq] at q
    obtain ⟨v, w, ev, r1, r2⟩ := r.cons
    simp only [List.map_cons, List.cons.injEq] at ev
    obtain ⟨rfl, rfl⟩ := ev
    unfold dGet at e
    rw [keyEq_iff q.1 ek] at e
    by_cases c : p.1 = κ
    · rw [if_pos (by simpa using c)] at e
      cases e
      exact ⟨p.2, valV_pos c, r1⟩
    · rw [if_neg (by simpa using c)] at e
      rw [valV_neg c]
      exact dGet_ok ek e q.2 r2
end
section
variable {X : Cx} {XT : List Value} {n : Bool}
theorem ix_dict (hu : X.A.units + 1 < cLine) : IxR X (fun x y H Q => ∃ a v, x = .ref a ∧ DGet H a y (some v) ∧ Q v H) := by
  intro value slice pins s σ H x y v u Q I rx ry hh hs
  obtain ⟨a, w, rfl, g, q⟩ := hh
  cases rx
  exact tail_any (dict_typeIs I g) PySem.F.slot_dict_getitem.lookup (d_getItem hu I g ry fun w' s3 I3 rw' => ⟨w, H, I3, rw', q⟩) hs
def rI (K : PySem.W.Frag) : R2 := fun x y H Q => ∃ G F m h a b d, Rel K G F m h H ∧ Rp K F m a x ∧ Rp K F m b y ∧ ixH h a b = some d ∧ ∀ v, Rp K F m d v → Q v H
theorem plc_get {α : Type} {xs : List α} {i : Int} {d : α} (e : ((plc xs.length i).bind fun j => xs[j]?) = some d) : ∃ j, plc xs.length i = some j ∧ xs[j]? = some d := by
  obtain ⟨j, e1, e2⟩ := Option.bind_eq_some_iff.mp e
  exact ⟨j, e1, e2⟩
theorem atI_of {α β : Type} {xs : List α} {ys : List β} {i : Int} {j : Nat} {v : β} (hl : xs.length = ys.length) (e1 : plc xs.length i = some j) (e2 : ys[j]? = some v) : L2.atI ys i = some v := by
  unfold L2.atI
  rw [show L2.ixN ys.length i = some j from by rw [← hl]; exact e1]
  exact e2
theorem op_ix (hu : X.A.units + 1 < cLine) : IxR X (rI X.K) := by
  intro value slice pins s σ H x y v u Q I rx ry hh hs
  obtain ⟨G, F, m, h, a, b, d, rl, ra, rb, e, q⟩ := hh
  have lst : ∀ {p : Addr} {ds : List D} {vs : List V} {i : Int}, x = .ref p → SqL X.K H p vs → Rps X.K F m ds vs → b = .int i → ((plc ds.length i).bind fun j => ds[j]?) = some d → wpAny (model X.prog X.w) X.A (subscriptTail value slice v u) (EP X pins σ Q) X.xe s := fun {p ds vs i} ex hq r eb e9 => by
    subst eb
    obtain ⟨j, e1, e2⟩ := plc_get e9
    obtain ⟨w, e3, rw'⟩ := r.get e2
    exact ix_list value slice pins s σ H x y v u Q I rx ry ⟨p, vs, i, w, ex, rp_int rb, hq, atI_of r.len e1 e3, q w rw'⟩ hs
  have dct : ∀ {p : Addr} {ks ds : List D} {kvs : List (Key × V)}, x = .ref p → H p = some (.dK kvs) → ks.map keyOf = kvs.map (fun p => some p.1) → Rps X.K F m ds (kvs.map (·.2)) → isKey b = true → dGet b ks ds = some d → wpAny (model X.prog X.w) X.A (subscriptTail value slice v u) (EP X pins σ Q) X.xe s := fun {p ks ds kvs} ex hp hk r ik e => by
    obtain ⟨κ, ek⟩ := keyOf_some ik
    obtain ⟨w, e1, rw'⟩ := dGet_ok ek e hk r
    refine ix_dict hu value slice pins s σ H x y v u Q I rx ry ⟨p, w, ex, ?_, q w rw'⟩ hs
    rw [key_v ek rb, ← e1]
    exact DGet.k hp
  cases a with
  | str z =>
    cases b with
    | int i =>
      have e : (if z.length ≤ SL then (plc z.length i).bind fun j => z[j]?.map fun c => D.str [c] else none) = some d := e
      split at e
      · rename_i hz
        obtain ⟨j, e1, e2⟩ := Option.bind_eq_some_iff.mp e
        obtain ⟨c, e3, rfl⟩ := Option.map_eq_some_iff.mp e2
        refine ix_str value slice pins s σ H x y v u Q I rx ry ⟨strOfL z, i, c, rp_str ra, rp_int rb, by rw [strLen, ← SLe]; exact hz, atI_of (xs := z) (by simp [strOfL]) e1 (by simpa [strOfL] using e3), q _ ?_⟩ hs
        exact mk_str
      · cases e
    | _ => cases e
  | dic ks ds =>
    have e : (if isKey b then dGet b ks ds else none) = some d := e
    split at e
    · rename_i ik
      obtain ⟨p, kvs, ex, hp, hk, r⟩ := rp_dic ra
      exact dct ex (rl.sub _ _ hp) hk r ik e
    · cases e
  | ref a =>
    obtain ⟨p, ex, g⟩ := rp_ref ra
    have e : (match MP.get h a with
      | some (.lst ds) => (match b with | .int i => (plc ds.length i).bind fun j => ds[j]? | _ => none)
      | some (.dic ks vs) => if isKey b then dGet b ks vs else none
      | _ => none) = some d := e
    cases hc : MP.get h a with
    | none => rw [hc] at e; cases e
    | some c =>
      rw [hc] at e
      obtain ⟨cr, _⟩ := rl.cell a c p hc g
      cases c with
      | lst ds =>
        cases b with
        | int i =>
          obtain ⟨_, vs, e1, r⟩ := cr
          exact lst ex (.inl (.inl e1)) r rfl e
        | _ => cases e
      | dic ks ds =>
        have e : (if isKey b then dGet b ks ds else none) = some d := e
        split at e
        · rename_i ik
          obtain ⟨_, kvs, hp, hk, r⟩ := cr
          exact dct ex hp hk r ik e
        · cases e
      | dead => cases e
  | tup ds =>
    cases b with
    | int i =>
      obtain ⟨p, vs, ex, hq, r⟩ := rp_tup ra
      obtain ⟨j, e1, e2⟩ := plc_get (xs := ds) (i := i) (d := d) (show ((plc ds.length i).bind fun j => ds[j]?) = some d from e)
      obtain ⟨w, e3, rw'⟩ := r.get e2
      exact ix_tup value slice pins s σ H x y v u Q I rx ry ⟨p, vs, i, w, ex, rp_int rb, SqT.mono rl.sub hq, atI_of r.len e1 e3, q w rw'⟩ hs
    | _ => cases e
  | lst ds =>
    cases b with
    | int i =>
      obtain ⟨p, vs, ex, hq, r⟩ := rp_lst ra
      exact lst ex (.inl (.inl (rl.sub _ _ hq))) r rfl e
    | _ => cases e
  | scr ns =>
    cases b with
    | int i =>
      obtain ⟨p, vs, ex, hq, r⟩ := lstV_ok rl ra (ds := ns.map .int) rfl
      refine lst ex hq r rfl ?_
      have e : ((plc ns.length i).bind fun j => ns[j]?.map D.int) = some d := e
      rw [List.length_map]
      obtain ⟨j, e1, e2⟩ := Option.bind_eq_some_iff.mp e
      rw [e1]
      show (ns.map D.int)[j]? = some d
      rw [List.getElem?_map]; exact e2
    | _ => cases e
  | _ => cases e

/-! ### slices -/
def rS (K : PySem.W.Frag) (XT : List Value) (n : Bool) : V → Option Int → Option Int → Hp → VK → Prop := fun x lo hi H Q => ∃ G F m h W a, Rel K G F m h H ∧ Rp K F m a x ∧ Pst K XT W G F m (mk n (slH h a lo hi) h) (ZV K Q)
theorem Rps.cut {K : PySem.W.Frag} {F : Hp} {m : List Addr} {ds : List D} {vs : List V} {lo hi : Option Int} (r : Rps K F m ds vs) : Rps K F m (MP.cut ds lo hi) (MP.cut vs lo hi) := by
  unfold MP.cut
  rw [r.len]
  exact (r.drop _).take _
theorem op_slice : SlR X (rS X.K XT n) := by
  intro pins s σ H x v vl vu lo hi sl Q I rx hs pl pu hh
  obtain ⟨G, F, m, h, W, a, rl, ra, p⟩ := hh
  obtain ⟨d, e, p⟩ := mk_some p
  have lst : ∀ {ds : List D}, (lstV h a).map (fun ds => D.lst (MP.cut ds lo hi)) = some d → ∃ T id, typeLookup (.type T) "__getitem__" = pure (some (.builtin id)) ∧ s.TypeIs v T ∧ wpAny (model X.prog X.w) X.A (getItem v (.ref sl)) (EP X pins σ Q) X.xe s := fun {ds} e => by
    obtain ⟨ds, e1, rfl⟩ := Option.map_eq_some_iff.mp e
    obtain ⟨q, vs, ex, hq, r⟩ := lstV_ok rl ra e1
    refine sl_list pins s σ H x v vl vu lo hi sl Q I rx hs pl pu ⟨q, vs, ex, hq, fun z nz => ?_⟩
    rw [← cut_eq]
    exact new_lst rl p r.cut nz
  cases a with
  | tup ds =>
    cases (show some (D.tup (MP.cut ds lo hi)) = some d from e)
    obtain ⟨q, vs, ex, hq, r⟩ := rp_tup ra
    refine sl_tupA pins s σ H x v vl vu lo hi sl Q I rx hs pl pu ⟨q, vs, ex, SqT.mono rl.sub hq, fun hw => ?_, fun _ z nz => ?_⟩
    · have e0 : MP.cut ds lo hi = ds := by
        unfold MP.cut
        rw [sIx_eq (Nat.zero_le _), sIx_eq (Nat.le_refl _), r.len, hw.1, hw.2, List.drop_zero, Nat.sub_zero, ← r.len, List.take_length]
      rw [e0] at p
      subst ex
      exact same_v rl p ra (fun _ z => nomatch z) (fun _ _ z => nomatch z)
    · rw [← cut_eq]
      exact new_tup rl p r.cut nz
  | str z =>
    have e : (if z.length ≤ SL then some (D.str (MP.cut z lo hi)) else none) = some d := e
    split at e
    · rename_i hz
      cases e
      refine sl_str pins s σ H x v vl vu lo hi sl Q I rx hs pl pu ⟨strOfL z, rp_str ra, by rw [strLen, ← SLe]; exact hz, ?_⟩
      have e0 : cutS (strOfL z) lo hi = strOfL (MP.cut z lo hi) := by
        unfold cutS MP.cut
        rw [strLen, sIx_eq (Nat.zero_le _), sIx_eq (Nat.le_refl _)]
        rfl
      rw [e0]
      exact q_str rl p
    · cases e
  | lst ds => exact lst (ds := ds) e
  | scr ds => exact lst (ds := []) e
  | ref ds => exact lst (ds := []) e
  | _ => cases e

/-! ### a call's arguments -/
def rF (K : PySem.W.Frag) (XT : List Value) (n : Bool) (f : Hea → List D → Option D) : List V → Hp → VK → Prop := fun xs H Q => ∃ G F m h W ds, Rel K G F m h H ∧ Rps K F m ds xs ∧ Pst K XT W G F m (mk n (f h ds) h) (ZV K Q)
theorem Rps.one {K : PySem.W.Frag} {F : Hp} {m : List Addr} {d : D} {vs : List V} (r : Rps K F m [d] vs) : ∃ v, vs = [v] ∧ Rp K F m d v := by
  obtain ⟨v, q, rfl, r1, r2⟩ := r.cons
  rw [r2.nil]; exact ⟨v, rfl, r1⟩
theorem Rps.two {K : PySem.W.Frag} {F : Hp} {m : List Addr} {d e : D} {vs : List V} (r : Rps K F m [d, e] vs) : ∃ v w, vs = [v, w] ∧ Rp K F m d v ∧ Rp K F m e w := by
  obtain ⟨v, q, rfl, r1, r2⟩ := r.cons
  obtain ⟨w, rfl, r3⟩ := r2.one
  exact ⟨v, w, rfl, r1, r3⟩
theorem one1_inv {f : D → Option D} {xs : List D} {d : D} (e : one1 f xs = some d) : ∃ x, xs = [x] ∧ f x = some d := by
  unfold one1 at e
  split at e
  · exact ⟨_, rfl, e⟩
  · cases e
theorem c_len : CallR X (.builtin "len") (rF X.K XT n (bltH .len)) := by
  intro pins s σ H xs us Q I r hh
  obtain ⟨G, F, m, h, W, ds, rl, rd, p⟩ := hh
  obtain ⟨d, e, p⟩ := mk_some p
  obtain ⟨x, rfl, e⟩ := one1_inv e
  obtain ⟨v, rfl, r1⟩ := rd.one
  have e : lenH h x = some d := e
  unfold lenH at e
  split at e
  · split at e
    · rename_i hz
      cases e
      rw [rp_str r1] at r
      refine call_len_str pins s σ H _ us Q I r ⟨_, rfl, by rw [strLen, ← SLe]; exact hz, ?_⟩
      rw [strLen]
      exact q_int rl p
    · cases e
  · obtain ⟨es, e1, rfl⟩ := Option.map_eq_some_iff.mp e
    obtain ⟨q, vs, rfl, hq, r2⟩ := seqV_ok rl r1 e1
    refine call_len_seq pins s σ H _ us Q I r ⟨q, vs, rfl, hq, ?_⟩
    rw [← r2.len]
    exact q_int rl p
theorem c_abs : CallR X (.builtin "abs") (rF X.K XT n (bltH .abs)) := by
  intro pins s σ H xs us Q I r hh
  obtain ⟨G, F, m, h, W, ds, rl, rd, p⟩ := hh
  obtain ⟨d, e, p⟩ := mk_some p
  obtain ⟨x, rfl, e⟩ := one1_inv e
  obtain ⟨v, rfl, r1⟩ := rd.one
  cases x <;> cases e
  exact call_abs pins s σ H _ us Q I r ⟨_, by rw [rp_int r1], q_int rl p⟩
theorem maxI_ok : ∀ {ns : List Int} {i : Int}, maxI ns = some i → i ∈ ns ∧ ∀ y ∈ ns, y ≤ i
  | [], _, e => by cases e
  | [a], i, e => by cases e; simp
  | a :: b :: r, i, e => by
    obtain ⟨j, e1, e2⟩ := Option.map_eq_some_iff.mp (show (maxI (b :: r)).map (fun j => if j > a then j else a) = some i from e)
    obtain ⟨m1, m2⟩ := maxI_ok e1
    subst e2
    split
    · refine ⟨List.mem_cons_of_mem _ m1, fun y hy => ?_⟩
      rcases List.mem_cons.mp hy with rfl | hy
      · omega
      · exact m2 y hy
    · refine ⟨List.mem_cons_self, fun y hy => ?_⟩
      rcases List.mem_cons.mp hy with rfl | hy
      · omega
      · have := m2 y hy; omega
theorem minI_ok : ∀ {ns : List Int} {i : Int}, minI ns = some i → i ∈ ns ∧ ∀ y ∈ ns, i ≤ y
  | [], _, e => by cases e
  | [a], i, e => by cases e; simp
  | a :: b :: r, i, e => by
    obtain ⟨j, e1, e2⟩ := Option.map_eq_some_iff.mp (show (minI (b :: r)).map (fun j => if j < a then j else a) = some i from e)
    obtain ⟨m1, m2⟩ := minI_ok e1
    subst e2
    split
    · refine ⟨List.mem_cons_of_mem _ m1, fun y hy => ?_⟩
      rcases List.mem_cons.mp hy with rfl | hy
      · omega
      · exact m2 y hy
    · refine ⟨List.mem_cons_self, fun y hy => ?_⟩
      rcases List.mem_cons.mp hy with rfl | hy
      · omega
      · have := m2 y hy; omega
theorem ints_of {K : PySem.W.Frag} {G F : Hp} {m : List Addr} {h : Hea} {H : Hp} {d : D} {v : V} {ns : List Int} (rl : Rel K G F m h H) (r : Rp K F m d v) (e : (lstV h d).bind intsL = some ns) : ∃ p, v = .ref p ∧ SqL K H p (ns.map .int) := by
  obtain ⟨ds, e1, e2⟩ := Option.bind_eq_some_iff.mp e
  obtain ⟨p, vs, rfl, hq, r2⟩ := lstV_ok rl r e1
  exact ⟨p, rfl, by rw [← intsL_ok e2 r2]; exact hq⟩
theorem blsL_ok {K : PySem.W.Frag} {F : Hp} {m : List Addr} : ∀ {ds : List D} {vs : List V} {ns : List Bool}, bls ds = some ns → Rps K F m ds vs → vs = ns.map .bl
  | [], _, _, e, r => by cases e; rw [r.nil]; rfl
  | d :: ds, vs, ns, e, r => by
    obtain ⟨v, q, rfl, r1, r2⟩ := r.cons
    cases d with
    | bl i =>
      unfold bls at e
      obtain ⟨ns', e1, rfl⟩ := Option.map_eq_some_iff.mp e
      rw [rp_bl r1, blsL_ok e1 r2]; rfl
    | _ => cases e
theorem bls_of {K : PySem.W.Frag} {G F : Hp} {m : List Addr} {h : Hea} {H : Hp} {d : D} {v : V} {ns : List Bool} (rl : Rel K G F m h H) (r : Rp K F m d v) (e : (lstV h d).bind bls = some ns) : ∃ p, v = .ref p ∧ SqL K H p (ns.map .bl) := by
  obtain ⟨ds, e1, e2⟩ := Option.bind_eq_some_iff.mp e
  obtain ⟨p, vs, rfl, hq, r2⟩ := lstV_ok rl r e1
  exact ⟨p, rfl, by rw [← blsL_ok e2 r2]; exact hq⟩
theorem c_max (hc : X.calm = true) : CallR X (.builtin "max") (rF X.K XT n (bltH .max)) := by
  intro pins s σ H xs us Q I r hh
  obtain ⟨G, F, m, h, W, ds, rl, rd, p⟩ := hh
  obtain ⟨d, e, p⟩ := mk_some p
  have e : maxH h ds = some d := e
  unfold maxH at e
  split at e
  · cases e
    obtain ⟨v, w, rfl, r1, r2⟩ := rd.two
    exact call_max2 hc pins s σ H _ us Q I r ⟨_, _, by rw [rp_int r1, rp_int r2], q_int rl p⟩
  · obtain ⟨ns, e1, e2⟩ := Option.bind_eq_some_iff.mp e
    obtain ⟨i, e3, rfl⟩ := Option.map_eq_some_iff.mp e2
    obtain ⟨v, rfl, r1⟩ := rd.one
    obtain ⟨a, rfl, hq⟩ := ints_of rl r1 e1
    obtain ⟨m1, m2⟩ := maxI_ok e3
    refine cr_max hc pins s σ H _ us Q I r ⟨a, ns, rfl, hq, List.length_pos_of_mem m1, fun k hk hk2 => ?_⟩
    have : k = i := by have h1 := m2 k hk; have h2 := hk2 i m1; omega
    subst this
    exact q_int rl p
  · cases e
theorem c_min (hc : X.calm = true) : CallR X (.builtin "min") (rF X.K XT n (bltH .min)) := by
  intro pins s σ H xs us Q I r hh
  obtain ⟨G, F, m, h, W, ds, rl, rd, p⟩ := hh
  obtain ⟨d, e, p⟩ := mk_some p
  have e : minH h ds = some d := e
  unfold minH at e
  split at e
  · cases e
    obtain ⟨v, w, rfl, r1, r2⟩ := rd.two
    exact call_min2 hc pins s σ H _ us Q I r ⟨_, _, by rw [rp_int r1, rp_int r2], q_int rl p⟩
  · obtain ⟨ns, e1, e2⟩ := Option.bind_eq_some_iff.mp e
    obtain ⟨i, e3, rfl⟩ := Option.map_eq_some_iff.mp e2
    obtain ⟨v, rfl, r1⟩ := rd.one
    obtain ⟨a, rfl, hq⟩ := ints_of rl r1 e1
    obtain ⟨m1, m2⟩ := minI_ok e3
    refine cr_min hc pins s σ H _ us Q I r ⟨a, ns, rfl, hq, List.length_pos_of_mem m1, fun k hk hk2 => ?_⟩
    have : k = i := by have h1 := m2 k hk; have h2 := hk2 i m1; omega
    subst this
    exact q_int rl p
  · cases e
theorem c_int : CallR X (.type "int") (rF X.K XT n (bltH .int)) := by
  intro pins s σ H xs us Q I r hh
  obtain ⟨G, F, m, h, W, ds, rl, rd, p⟩ := hh
  obtain ⟨d, e, p⟩ := mk_some p
  obtain ⟨x, rfl, e⟩ := one1_inv e
  obtain ⟨v, rfl, r1⟩ := rd.one
  cases x <;> cases e
  · exact call_int1 pins s σ H _ us Q I r (.inr ⟨_, by rw [rp_bl r1], q_int rl p⟩)
  · exact call_int1 pins s σ H _ us Q I r (.inl ⟨_, by rw [rp_int r1], q_int rl p⟩)
theorem c_str : CallR X (.type "str") (rF X.K XT n (bltH .str)) := by
  intro pins s σ H xs us Q I r hh
  obtain ⟨G, F, m, h, W, ds, rl, rd, p⟩ := hh
  obtain ⟨d, e, p⟩ := mk_some p
  obtain ⟨x, rfl, e⟩ := one1_inv e
  obtain ⟨v, rfl, r1⟩ := rd.one
  cases x with
  | int i =>
    have e : (if i.natAbs.log2 < 1920 then some (D.str (intStr i)) else none) = some d := e
    split at e
    · rename_i hz
      cases e
      exact call_str_int pins s σ H _ us Q I r ⟨i, by rw [rp_int r1], hz, q_str rl p⟩
    · cases e
  | _ => cases e
theorem c_tuple : CallR X (.type "tuple") (rF X.K XT n (bltH .tuple)) := by
  intro pins s σ H xs us Q I r hh
  obtain ⟨G, F, m, h, W, ds, rl, rd, p⟩ := hh
  obtain ⟨d, e, p⟩ := mk_some p
  obtain ⟨x, rfl, e⟩ := one1_inv e
  obtain ⟨v, rfl, r1⟩ := rd.one
  obtain ⟨es, e1, rfl⟩ := Option.map_eq_some_iff.mp e
  by_cases ht : ∃ ts, x = .tup ts
  · obtain ⟨ts, rfl⟩ := ht
    obtain ⟨q, vs, rfl, hq, r2⟩ := rp_tup r1
    cases e1
    exact call_tuple_of pins s σ H _ us Q I r ⟨q, vs, rfl, .inr ⟨SqT.mono rl.sub hq, same_v rl p r1 (fun _ z => nomatch z) (fun _ _ z => nomatch z)⟩⟩
  · have e1 : lstV h x = some es := by
      cases x <;> first | exact e1 | exact absurd ⟨_, rfl⟩ ht
    obtain ⟨q, vs, rfl, hq, r2⟩ := lstV_ok rl r1 e1
    exact call_tuple_of pins s σ H _ us Q I r ⟨q, vs, rfl, .inl ⟨hq, fun z nz => new_tup rl p r2 nz⟩⟩
theorem c_list : CallR X (.type "list") (rF X.K XT n (bltH .list)) := by
  intro pins s σ H xs us Q I r hh
  obtain ⟨G, F, m, h, W, ds, rl, rd, p⟩ := hh
  obtain ⟨d, e, p⟩ := mk_some p
  obtain ⟨x, rfl, e⟩ := one1_inv e
  obtain ⟨v, rfl, r1⟩ := rd.one
  obtain ⟨es, e1, rfl⟩ := Option.map_eq_some_iff.mp e
  obtain ⟨q, vs, rfl, hq, r2⟩ := seqV_ok rl r1 e1
  exact call_list_of pins s σ H _ us Q I r ⟨q, vs, rfl, hq, fun z nz => new_lst rl p r2 nz⟩
theorem c_any (hc : X.calm = true) : CallR X (.builtin "any") (rF X.K XT n (bltH .any)) := by
  intro pins s σ H xs us Q I r hh
  obtain ⟨G, F, m, h, W, ds, rl, rd, p⟩ := hh
  obtain ⟨d, e, p⟩ := mk_some p
  obtain ⟨x, rfl, e⟩ := one1_inv e
  obtain ⟨v, rfl, r1⟩ := rd.one
  obtain ⟨bs, e1, rfl⟩ := Option.map_eq_some_iff.mp e
  obtain ⟨a, rfl, hq⟩ := bls_of rl r1 e1
  exact cr_any hc pins s σ H _ us Q I r ⟨a, bs, rfl, hq, q_bl rl p⟩
theorem c_all (hc : X.calm = true) : CallR X (.builtin "all") (rF X.K XT n (bltH .all)) := by
  intro pins s σ H xs us Q I r hh
  obtain ⟨G, F, m, h, W, ds, rl, rd, p⟩ := hh
  obtain ⟨d, e, p⟩ := mk_some p
  obtain ⟨x, rfl, e⟩ := one1_inv e
  obtain ⟨v, rfl, r1⟩ := rd.one
  obtain ⟨bs, e1, rfl⟩ := Option.map_eq_some_iff.mp e
  obtain ⟨a, rfl, hq⟩ := bls_of rl r1 e1
  exact cr_all hc pins s σ H _ us Q I r ⟨a, bs, rfl, hq, q_bl rl p⟩
theorem sum_tupG {prog : Program} {w : World} {A : Around} {E : Value → Shared → Prop} {s : Shared} {l : Addr} {xs : Array (Int × Tok)} {Q : Value → Shared → Prop} (hh : A.handled = none) (hl : s.heap.IsTuple l (intItems xs))
    (h : ∀ h' tk t', (∀ b o, s.heap.get? b = some o → h'.get? b = some o) → Q (.int (preSum (numAt xs) xs.size) t') { s with heap := h', toks := tk }) :
    wpAny (model prog w) A (call (.builtin "sum") [.ref l]) Q E s := by
  have hlt : l < s.heap.objs.size := by
    obtain ⟨o, e, _⟩ := hl
    exact Heap.lt_size e
  refine call_sum_walkG (wpAny_pyIter_tuple hl ?_)
  refine ⟨_, [_, l], [_], _, _, _, numAt xs, rfl, Walks.tuple (A := A.in1) hh _ l (Nat.ne_of_lt hlt) (intItems xs), ⟨⟨_, Heap.get?_push_size _ rfl, rfl, rfl⟩, hl.push _⟩, fun c hc => ?_, (fun _ _ => intItems_at), fun h' tk t' hk => ?_⟩
  · show c < (s.heap.push _).objs.size
    rw [Heap.size_push]
    rcases List.mem_cons.mp hc with rfl | hc
    · exact Nat.lt_succ_self _
    · rcases List.mem_cons.mp hc with rfl | hc
      · exact Nat.lt_succ_of_lt hlt
      · cases hc
  · have := h h' tk t' fun b o e => hk b o (fun q => by
      rcases List.mem_cons.mp q with rfl | q
      · exact absurd (Heap.lt_size e) (Nat.lt_irrefl _)
      · cases q) (Heap.get?_push_of_some _ e)
    simpa [intItems] using this
theorem sum_rawT {prog : Program} {w : World} {A : Around} {E : Value → Shared → Prop} {s : Shared} {l : Addr} {its : List Value} {ns : List Int} {Q : Value → Shared → Prop} (hh : A.handled = none) (hl : s.heap.IsTuple l its.toArray) (hi : IntsAre its ns)
    (h : ∀ h' tk t', (∀ b o, s.heap.get? b = some o → h'.get? b = some o) → Q (.int ns.sum t') { s with heap := h', toks := tk }) : wpAny (model prog w) A (call (.builtin "sum") [.ref l]) Q E s := by
  obtain ⟨xs, e⟩ := hi.allInts.items
  have hn : numsOf (intItems xs).toList = ns := by rw [← e]; exact hi.numsOf
  rw [nums_intItems] at hn
  rw [e] at hl
  refine sum_tupG hh hl fun h' tk t' hk => ?_
  have := h h' tk t' hk
  rw [preSum_eq, List.take_of_length_le (by simp), hn]; exact this
theorem c_sum (hc : X.calm = true) : CallR X (.builtin "sum") (rF X.K XT n (bltH .sum)) := by
  intro pins s σ H xs us Q I r hh
  obtain ⟨G, F, m, h, W, ds, rl, rd, p⟩ := hh
  obtain ⟨d, e, pp⟩ := mk_some p
  clear p
  obtain ⟨x, rfl, e⟩ := one1_inv e
  obtain ⟨v, rfl, r1⟩ := rd.one
  have e : ((seqV h x).bind intsL).map (fun ns => D.int ns.sum) = some d := e
  obtain ⟨bs, e1, rfl⟩ := Option.map_eq_some_iff.mp e
  cases x with
  | tup ds =>
    obtain ⟨a, vs, rfl, hq, r2⟩ := rp_tup r1
    have e2 : intsL ds = some bs := e1
    have hv := intsL_ok e2 r2
    subst hv
    obtain ⟨its, rv, hl, _⟩ := I.tuple (SqT.mono rl.sub hq)
    rw [Vals.ref1 r]
    exact sum_rawT (I.ok.hd hc) hl rv.ints fun h' tk t' hk => ⟨.int _, H, I.kept hk, ⟨_, rfl⟩, q_int rl pp⟩
  | _ =>
    obtain ⟨a, rfl, hq⟩ := ints_of rl r1 e1
    exact cr_sum hc pins s σ H _ us Q I r ⟨a, bs, rfl, hq, q_int rl pp⟩

/-! ### repr, sorted -/
theorem shw_eq (d : D) : strOfL (shw d) = (toPy d).shown := by
  unfold shw strOfL
  cases (toPy d).shown; rfl
theorem some_ifB {α : Type} {c : Bool} {x y : α} (e : (if c then some x else none) = some y) : c = true ∧ x = y := by
  split at e
  · rename_i hc; cases e; exact ⟨hc, rfl⟩
  · cases e
theorem c_repr (hg : X.A.guards = some []) (hu : X.A.units + 70 < cLine) : CallR X (.builtin "repr") (rF X.K XT n (bltH .repr)) := by
  intro pins s σ H xs us Q I r hh
  obtain ⟨G, F, m, h, W, ds, rl, rd, p⟩ := hh
  obtain ⟨d, e, p⟩ := mk_some p
  obtain ⟨x, rfl, e⟩ := one1_inv e
  obtain ⟨v, rfl, r1⟩ := rd.one
  have e : reprH h x = some d := e
  unfold reprH at e
  obtain ⟨y, e1, e2⟩ := Option.bind_eq_some_iff.mp e
  obtain ⟨ok, rfl⟩ := some_ifB e2
  unfold reprOk at ok
  simp only [Bool.and_eq_true, decide_eq_true_eq, Bool.not_eq_true'] at ok
  obtain ⟨⟨⟨⟨l, sh⟩, nd⟩, dp⟩, sz⟩ := ok
  cases r with
  | cons rv rr =>
    cases rr
    rename_i u
    have sz : (toPy y).shown.length ≤ sizeLine := by rw [← SLe]; exact sz
    have ry := (rsv_ok rl e1 r1).1
    obtain ⟨as, ra⟩ := Dp.reads I _ _ _ (toDp l ry) rv
    have q0 : Q (.str (toPy y).shown) H := by rw [← shw_eq]; exact q_str rl p
    have fin : ∀ h' t tk, (∀ b o, s.heap.get? b = some o → h'.get? b = some o) → EP X pins σ Q (.str (toPy y).shown t) { s with heap := h', toks := tk } := fun h' t tk hk => ⟨.str (toPy y).shown, H, I.kept hk, ⟨_, rfl⟩, q0⟩
    have ref : ∀ a, u = .ref a → wpAny (model X.prog X.w) X.A (call (.builtin "repr") [u]) (EP X pins σ Q) X.xe s := fun a ea => by
      subst ea
      refine repr_of_reads' ra sh (PyData.noDict_hsm nd) hg ?_ (fun _ _ e => e) fin sz
      have : (toPy y).depth ≤ 60 := dp
      omega
    have fin0 : EP X pins σ Q (.str (toPy y).shown s.toks) { s with toks := s.toks + 1 } := fin s.heap s.toks (s.toks + 1) fun _ _ e => e
    cases y with
    | non => rw [rp_non ry] at rv; cases rv; exact PySem.P.repr_of_none fin0
    | bl b => rw [rp_bl ry] at rv; cases rv; exact PySem.P.repr_of_bool fin0
    | int i =>
      rw [rp_int ry] at rv
      obtain ⟨t, rfl⟩ := rv
      refine PySem.P.repr_of_int ?_ fin0
      have sh : decide (i.natAbs.log2 < 1920) = true := sh
      exact of_decide_eq_true sh
    | str z =>
      rw [rp_str ry] at rv
      obtain ⟨t, rfl⟩ := rv
      exact PySem.P.repr_of_str fin0 sz
    | tup ds => obtain ⟨a, vs, rfl, _⟩ := rp_tup ry; exact ref a rv
    | lst ds => obtain ⟨a, vs, rfl, _⟩ := rp_lst ry; exact ref a rv
    | scr ns => obtain ⟨a, rfl, _⟩ := rp_scr ry; exact ref a rv
    | dic ks vs => unfold lay toPy at l; unfold PyData.canLay0 at l; cases l
    | ref a => unfold lay toPy at l; unfold PyData.canLay0 at l; cases l
theorem each_rps {K : PySem.W.Frag} {F : Hp} {m : List Addr} : ∀ {ds : List D} {vs : List V} {us : List Value}, Rps K F m ds vs → Vals vs us → PySem.W.EachIs (fun u d => ∃ v, RelV v u ∧ Rp K F m d v) us ds
  | [], _, _, r, q => by rw [r.nil] at q; cases q; exact .nil
  | d :: ds, _, _, r, q => by
    obtain ⟨v, w, rfl, r1, r2⟩ := r.cons
    cases q with
    | cons q1 q2 => exact .cons ⟨v, q1, r1⟩ (each_rps r2 q2)
theorem rps_each {K : PySem.W.Frag} {F : Hp} {m : List Addr} : ∀ {us : List Value} {ds : List D}, PySem.W.EachIs (fun u d => ∃ v, RelV v u ∧ Rp K F m d v) us ds → ∃ vs, Vals vs us ∧ Rps K F m ds vs
  | _, _, .nil => ⟨[], .nil, .mk0⟩
  | _, _, .cons ⟨v, q1, r1⟩ t => by
    obtain ⟨vs, q2, r2⟩ := rps_each t
    exact ⟨v :: vs, .cons q1 q2, .mk r1 r2⟩
theorem each_sub {α β : Type} {R S : α → β → Prop} : ∀ {as : List α} {bs : List β}, (∀ a b, b ∈ bs → R a b → S a b) → PySem.W.EachIs R as bs → PySem.W.EachIs S as bs
  | _, _, _, .nil => .nil
  | _, _, k, .cons h t => .cons (k _ _ List.mem_cons_self h) (each_sub (fun a b hb => k a b (List.mem_cons_of_mem _ hb)) t)
theorem c_sorted (hu : X.A.units + 70 < cLine) : CallR X (.builtin "sorted") (rF X.K XT n (bltH .sorted)) := by
  intro pins s σ H xs us Q I r hh
  obtain ⟨G, F, m, h, W, ds, rl, rd, p⟩ := hh
  obtain ⟨d, e, p⟩ := mk_some p
  obtain ⟨x, rfl, e⟩ := one1_inv e
  obtain ⟨v, rfl, r1⟩ := rd.one
  have e : sortH h x = some d := e
  unfold sortH at e
  obtain ⟨es, e1, e2⟩ := Option.bind_eq_some_iff.mp e
  obtain ⟨ok, rfl⟩ := some_ifB e2
  obtain ⟨q, vs, rfl, hq, r2⟩ := lstV_ok rl r1 e1
  obtain ⟨its, rv, pl, hz⟩ := I.list hq
  rw [Vals.ref1 r]
  unfold sortOk at ok
  simp only [Bool.and_eq_true, Bool.or_eq_true, List.all_eq_true, decide_eq_true_eq] at ok
  obtain ⟨⟨k1, k2⟩, k3⟩ := ok
  have each := each_rps r2 rv
  have er : PySem.W.EachIs (fun u d => ∃ as, Reads s.heap u (toPy d) as) its es := each_sub (fun u d hd ⟨w, q1, q2⟩ =>
    Dp.reads I _ _ _ (toDp (k1 d hd).1.2 (Rp.chg (G9 := H) (m' := []) (n := 0) rl.sub (fun a p l => absurd l (Nat.not_lt_zero _)) (k1 d hd).1.1 q2)) q1) each
  refine PySem.W.sorted_data (R := fun u d => ∃ v, RelV v u ∧ Rp X.K F m d v) (enc := toPy) pl.isList each er ?_ ?_ ?_ ?_ ?_
  · intro a ha b hb
    obtain ⟨a', ha', rfl⟩ := List.mem_map.mp ha
    obtain ⟨b', hb', rfl⟩ := List.mem_map.mp hb
    exact k2 a' ha' b' hb'
  · rcases k3 with k3 | k3
    · refine .inl fun d hd => ?_
      obtain ⟨a, ha, rfl⟩ := List.mem_map.mp hd
      have := k3 a ha
      cases a <;> try (cases this)
      rename_i ds
      cases ds with
      | nil => cases this
      | cons x xs => exact ⟨toPy x, toPys xs, rfl⟩
    · refine .inr fun d hd => ?_
      obtain ⟨a, ha, rfl⟩ := List.mem_map.mp hd
      have k4 := (k1 a ha).1.2
      have := k3 a ha
      cases a <;> first | (cases this; done) | exact ⟨fun z => (nomatch z), fun _ z => (nomatch z)⟩
  · rw [r2.len]; exact hz
  · intro b hb
    have : (toPy b).depth ≤ 20 := (k1 b hb).2
    omega
  · intro out hl eo
    obtain ⟨ws, q1, q2⟩ := rps_each eo
    obtain ⟨ep, he'⟩ := PyProof.Rows.sortedAll_at s.heap its out.toArray
    have hlen : ws.length ≤ sizeLine := by rw [← q2.len, List.length_mergeSort, r2.len]; exact hz
    refine ⟨.ref _, upd H (s.heap.objs.size + 1) (.lst ws), I.laid (t' := s.toks) (fun _ _ => PyProof.Rows.sortedAll_old) (Nat.le_succ _) ⟨hlen, out, ep, q1, he'⟩, rfl, new_lst rl p q2 (I.hok.fresh (Nat.le_succ _))⟩

/-! ### isinstance -/
def tyN : Ty → String
  | .int => "int" | .bool => "bool" | .str => "str" | .tuple => "tuple" | .list => "list" | .dict => "dict"
theorem kit_tys : ∀ a b : Ty, kitB (tyN a) (tyN b) = some (isTy a b) := by
  intro a b
  cases a <;> cases b <;> decide +kernel
theorem kit_non : ∀ b : Ty, kitB "NoneType" (tyN b) = some false := by
  intro b
  cases b <;> decide +kernel
theorem tyX_of {K : PySem.W.Frag} {G F : Hp} {m : List Addr} {h : Hea} {H : Hp} {d : D} {v : V} {t : Ty} (rl : Rel K G F m h H) (r : Rp K F m d v) (e : tyOf h d = some t) : TyX K H v (.type (tyN t)) := by
  have lst : ∀ {p : Addr} {vs : List V}, SqL K H p vs → TyX K H (.ref p) (.type "list") := fun {p vs} s => by
    rcases s with (s | ⟨o, s⟩) | ⟨o, its, k, s, hc, _⟩
    · exact .base (.lst s)
    · exact .base (.frz s)
    · exact .kList s hc
  have tup : ∀ {p : Addr} {vs : List V}, SqT K H p vs → TyX K H (.ref p) (.type "tuple") := fun {p vs} s => by
    rcases s with (s | ⟨o, s⟩) | ⟨o, its, k, s, hc, _⟩
    · exact .base (.tup s)
    · exact .fTuple s
    · exact .kTuple s hc
  cases d with
  | non => cases e
  | bl b => cases e; rw [rp_bl r]; exact .base (.bl _)
  | int b => cases e; rw [rp_int r]; exact .base (.int _)
  | str b => cases e; rw [rp_str r]; exact .base (.str _)
  | tup ds => cases e; obtain ⟨p, vs, rfl, s, _⟩ := rp_tup r; exact tup (SqT.mono rl.sub s)
  | lst ds => cases e; obtain ⟨p, vs, rfl, s, _⟩ := rp_lst r; exact lst (.inl (.inl (rl.sub _ _ s)))
  | scr ds => cases e; obtain ⟨p, rfl, s⟩ := rp_scr r; exact lst (SqL.mono rl.sub s)
  | dic ks ds => cases e; obtain ⟨p, vs, rfl, s, _⟩ := rp_dic r; exact .base (.dK (rl.sub _ _ s))
  | ref a =>
    obtain ⟨p, rfl, g⟩ := rp_ref r
    unfold tyOf at e
    dsimp only at e
    cases hc : MP.get h a with
    | none => rw [hc] at e; cases e
    | some c =>
      rw [hc] at e
      obtain ⟨cr, _⟩ := rl.cell a c p hc g
      cases c with
      | lst ds => cases e; obtain ⟨_, vs, e1, _⟩ := cr; exact .base (.lst e1)
      | dic ks ds => cases e; obtain ⟨_, vs, e1, _⟩ := cr; exact .base (.dK e1)
      | dead => cases e
theorem kit_any {K : PySem.W.Frag} {a : String} (f : Ty → Bool) (hf : ∀ b, kitB a (tyN b) = some (f b)) : ∀ ts : List Ty, PySem.W.kitAny K (.type a) (ts.map fun t => .type (tyN t)) = some (ts.any f)
  | [] => kitAny_nil
  | t :: ts => kitAny_cons (kit_ty (hf t)) (fun e => by rw [kit_any f hf ts, List.any_cons, e, Bool.false_or]) (fun e => by rw [List.any_cons, e, Bool.true_or])
theorem isi_of {K : PySem.W.Frag} {G F : Hp} {m : List Addr} {h : Hea} {H : Hp} {d : D} {v : V} {ts : List Ty} {k : Bool} (rl : Rel K G F m h H) (r : Rp K F m d v) (e : isiH h d ts = some k) :
    ∃ t, TyX K H v t ∧ PySem.W.kitAny K t (ts.map fun t => .type (tyN t)) = some k ∧ ∀ t0, ts = [t0] → PySem.W.kitOne K t (.type (tyN t0)) = some k := by
  by_cases hn : d = .non
  · subst hn
    cases (show some false = some k from e)
    refine ⟨_, by rw [rp_non r]; exact .base .non, ?_, fun t0 _ => kit_ty (kit_non t0)⟩
    rw [kit_any (fun _ => false) kit_non]
    simp
  · have e : (tyOf h d).map (fun t => ts.any (isTy t)) = some k := by cases d <;> first | exact e | exact absurd rfl hn
    obtain ⟨t, e1, rfl⟩ := Option.map_eq_some_iff.mp e
    refine ⟨_, tyX_of rl r e1, kit_any _ (kit_tys t) ts, fun t0 z => ?_⟩
    subst z
    rw [kit_ty (kit_tys t t0)]
    simp

/-! ### methods that change a list; a store -/
def rM (K : PySem.W.Frag) (XT : List Value) (mm : Mth) : V → List V → Hp → VK → Prop := fun x xs H Q => ∃ G F m h W a ds, Rel K G F m h H ∧ Rp K F m a x ∧ Rps K F m ds xs ∧ Pst K XT W G F m (mthH mm h a ds) (ZV K Q)
theorem cell_lst {K : PySem.W.Frag} {G F : Hp} {m : List Addr} {h : Hea} {H : Hp} {a : Nat} {ds : List D} {v : V} (rl : Rel K G F m h H) (r : Rp K F m (.ref a) v) (hc : MP.get h a = some (.lst ds)) :
    ∃ p vs, v = .ref p ∧ MP.get m a = some p ∧ F p = none ∧ H p = some (.lst vs) ∧ Rps K F m ds vs ∧ belows a ds = true := by
  obtain ⟨p, rfl, g⟩ := rp_ref r
  obtain ⟨⟨f, vs, e1, q⟩, b⟩ := rl.cell a _ p hc g
  exact ⟨p, vs, rfl, g, f, e1, q, b⟩
theorem belows_app {n : Nat} : ∀ {xs ys : List D}, belows n xs = true → belows n ys = true → belows n (xs ++ ys) = true
  | [], _, _, h => h
  | x :: xs, ys, h, h' => by
    obtain ⟨h1, h2⟩ := belows_cons h
    rw [List.cons_append]
    unfold belows
    rw [h1, belows_app h2 h']; rfl
theorem belows_one {n : Nat} {d : D} (h : below n d = true) : belows n [d] = true := by unfold belows; rw [h]; unfold belows; rfl
theorem belows_set {n : Nat} {d : D} (h : below n d = true) : ∀ {xs : List D} {i : Nat}, belows n xs = true → belows n (xs.set i d) = true
  | [], _, q => q
  | x :: xs, 0, q => by rw [List.set_cons_zero]; unfold belows; rw [h, (belows_cons q).2]; rfl
  | x :: xs, i + 1, q => by rw [List.set_cons_succ]; unfold belows; rw [(belows_cons q).1, belows_set h (belows_cons q).2]; rfl
theorem onL_inv {K : PySem.W.Frag} {G F : Hp} {m : List Addr} {h : Hea} {H : Hp} {W : Value → Option Addr → Hp → Prop} {Z : Hp → List Addr → Hea → Hp → D → Prop} {a : D} {x : V} {f : Nat → List D → Option (D × List D)} (rl : Rel K G F m h H) (ra : Rp K F m a x) (p : Pst K XT W G F m (onL h a f) Z) :
    ∃ i ds d ds' p' vs, f i ds = some (d, ds') ∧ x = .ref p' ∧ H p' = some (.lst vs) ∧ Rps K F m ds vs ∧ belows i ds = true ∧
      ∀ vs', Rps K F m ds' vs' → belows i ds' = true → Z F m (put h i (.lst ds')) (upd H p' (.lst vs')) d := by
  unfold onL at p
  cases a with
  | ref i =>
    dsimp only at p
    cases hc : MP.get h i with
    | none => rw [hc] at p; exact p.elim
    | some c =>
      rw [hc] at p
      cases c with
      | lst ds =>
        dsimp only at p
        cases hf : f i ds with
        | none => rw [hf] at p; exact p.elim
        | some z =>
          obtain ⟨d, ds'⟩ := z
          rw [hf] at p
          obtain ⟨q, vs, rfl, g, fn, e1, r2, b⟩ := cell_lst rl ra hc
          exact ⟨i, ds, d, ds', q, vs, hf, rfl, e1, r2, b, fun vs' r' b' => p _ _ _ .refl (rl.wr hc g fn ⟨fn, vs', upd_same, r'⟩ b')⟩
      | _ => exact p.elim
  | _ => exact p.elim
theorem some_if {α : Type} {c : Prop} [Decidable c] {x y : α} (e : (if c then some x else none) = some y) : c ∧ x = y := by
  by_cases h : c
  · rw [if_pos h] at e; exact ⟨h, Option.some.inj e⟩
  · rw [if_neg h] at e; cases e
theorem m_append : MtR X "list.append" (rM X.K XT .append) := by
  intro pins s σ H x xs v us Q I rx rs hh
  obtain ⟨G, F, m, h, W, a, ds, rl, ra, rd, p⟩ := hh
  have p : Pst X.K XT W G F m (appH h a ds) (ZV X.K Q) := p
  unfold appH at p
  split at p
  · obtain ⟨i, es, d, es', q, vs, ef, rfl, e1, r2, b, k⟩ := onL_inv rl ra p
    obtain ⟨hz, e2⟩ := some_if ef
    cases e2
    obtain ⟨w, rfl, r1⟩ := rd.one
    exact mt_append pins s σ H _ _ v us Q I rx rs ⟨q, vs, w, rfl, rfl, e1, by rw [← SLe, ← r2.len]; exact hz.1, k _ (r2.app (.mk r1 .mk0)) (belows_app b (belows_one hz.2)) _ mk_non⟩
  · exact p.elim
theorem m_clear : MtR X "list.clear" (rM X.K XT .clear) := by
  intro pins s σ H x xs v us Q I rx rs hh
  obtain ⟨G, F, m, h, W, a, ds, rl, ra, rd, p⟩ := hh
  have p : Pst X.K XT W G F m (clrH h a ds) (ZV X.K Q) := p
  unfold clrH at p
  split at p
  · obtain ⟨i, es, d, es', q, vs, ef, rfl, e1, r2, b, k⟩ := onL_inv rl ra p
    cases ef
    have e0 := rd.nil
    subst e0
    exact mt_clear pins s σ H _ _ v us Q I rx rs ⟨q, vs, rfl, rfl, e1, k [] .mk0 (by unfold belows; rfl) _ mk_non⟩
  · exact p.elim
theorem Rps.rev {K : PySem.W.Frag} {F : Hp} {m : List Addr} : ∀ {ds : List D} {vs : List V}, Rps K F m ds vs → Rps K F m ds.reverse vs.reverse
  | [], _, r => by rw [r.nil]; exact .mk0
  | d :: ds, _, r => by
    obtain ⟨v, q, rfl, r1, r2⟩ := r.cons
    rw [List.reverse_cons, List.reverse_cons]
    exact r2.rev.app (.mk r1 .mk0)
theorem belows_mem {n : Nat} : ∀ {xs : List D}, belows n xs = true ↔ ∀ x ∈ xs, below n x = true
  | [] => by unfold belows; simp
  | x :: xs => by
    unfold belows
    rw [Bool.and_eq_true, belows_mem]
    simp
theorem m_reverse : MtR X "list.reverse" (rM X.K XT .reverse) := by
  intro pins s σ H x xs v us Q I rx rs hh
  obtain ⟨G, F, m, h, W, a, ds, rl, ra, rd, p⟩ := hh
  have p : Pst X.K XT W G F m (revH h a ds) (ZV X.K Q) := p
  unfold revH at p
  split at p
  · obtain ⟨i, es, d, es', q, vs, ef, rfl, e1, r2, b, k⟩ := onL_inv rl ra p
    cases ef
    have e0 := rd.nil
    subst e0
    exact mt_reverse pins s σ H _ _ v us Q I rx rs ⟨q, vs, rfl, rfl, e1, k _ r2.rev (by rw [belows_mem] at b ⊢; intro x hx; exact b x (by simpa using hx)) _ mk_non⟩
  · exact p.elim
theorem Rps.last {K : PySem.W.Frag} {F : Hp} {m : List Addr} {ds : List D} {vs : List V} (r : Rps K F m ds vs) : Rps K F m ds.dropLast vs.dropLast := by
  rw [List.dropLast_eq_take, List.dropLast_eq_take, r.len]
  exact r.take _
theorem Rps.erase {K : PySem.W.Frag} {F : Hp} {m : List Addr} : ∀ {ds : List D} {vs : List V} (i : Nat), Rps K F m ds vs → Rps K F m (ds.eraseIdx i) (vs.eraseIdx i)
  | [], _, i, r => by rw [r.nil]; exact .mk0
  | d :: ds, _, 0, r => by obtain ⟨v, q, rfl, r1, r2⟩ := r.cons; exact r2
  | d :: ds, _, i + 1, r => by obtain ⟨v, q, rfl, r1, r2⟩ := r.cons; exact .mk r1 (r2.erase i)
theorem seqIx {n : Nat} {i : Int} {j : Nat} (e : plc n i = some j) : seqIndex? i n = some j := (L2.ixN_seq (show L2.ixN n i = some j from e)).1
theorem m_pop : MtR X "list.pop" (rM X.K XT .pop) := by
  intro pins s σ H x xs v us Q I rx rs hh
  obtain ⟨G, F, m, h, W, a, ds, rl, ra, rd, p⟩ := hh
  have p : Pst X.K XT W G F m (popH h a ds) (ZV X.K Q) := p
  unfold popH at p
  split at p
  · obtain ⟨i, es, d, es', q, vs, ef, rfl, e1, r2, b, k⟩ := onL_inv rl ra p
    obtain ⟨y, e2, e3⟩ := Option.map_eq_some_iff.mp ef
    cases e3
    have e0 := rd.nil
    subst e0
    obtain ⟨w, e4, r1⟩ := r2.get e2
    refine mt_pop pins s σ H _ _ v us Q I rx rs ⟨q, vs, w, rfl, rfl, e1, by rw [← r2.len]; exact e4, k _ r2.last ?_ _ r1⟩
    rw [belows_mem] at b ⊢
    exact fun x hx => b x (List.dropLast_subset _ hx)
  · obtain ⟨i, es, d, es', q, vs, ef, rfl, e1, r2, b, k⟩ := onL_inv rl ra p
    rename_i i0 _
    by_cases hz : -(2 ^ 63) ≤ i0 ∧ i0 < 2 ^ 63
    · rw [if_pos hz] at ef
      obtain ⟨j, e2, e3⟩ := Option.bind_eq_some_iff.mp ef
      obtain ⟨y, e4, e5⟩ := Option.map_eq_some_iff.mp e3
      cases e5
      obtain ⟨w, e6, r1⟩ := r2.get e4
      obtain ⟨w', rfl, r3⟩ := rd.one
      refine mt_popAt pins s σ H _ _ v us Q I rx rs ⟨q, vs, i0, j, w, rfl, by rw [rp_int r3], e1, hz.1, hz.2, by rw [← r2.len]; exact seqIx e2, e6, k _ (r2.erase j) ?_ _ r1⟩
      rw [belows_mem] at b ⊢
      exact fun x hx => b x (List.mem_of_mem_eraseIdx hx)
    · rw [if_neg hz] at ef; cases ef
  · exact p.elim
theorem m_extend : MtR X "list.extend" (rM X.K XT .extend) := by
  intro pins s σ H x xs v us Q I rx rs hh
  obtain ⟨G, F, m, h, W, a, ds, rl, ra, rd, p⟩ := hh
  have p : Pst X.K XT W G F m (extH h a ds) (ZV X.K Q) := p
  unfold extH at p
  split at p
  · split at p
    · rename_i hw
      obtain ⟨i, es, d, es', q, vs, ef, rfl, e1, r2, b, k⟩ := onL_inv rl ra p
      obtain ⟨hz, e2⟩ := some_if ef
      cases e2
      obtain ⟨w, rfl, r1⟩ := rd.one
      obtain ⟨q2, ws, rfl, e3, r3⟩ := lstW_ok rl r1 hw
      exact mt_extend pins s σ H _ _ v us Q I rx rs ⟨q, q2, vs, ws, rfl, rfl, e1, e3, by rw [← SLe, ← r2.len, ← r3.len]; exact hz.1, k _ (r2.app r3) (belows_app b hz.2) _ mk_non⟩
    · exact p.elim
  · exact p.elim
theorem m_insert : MtR X "list.insert" (rM X.K XT .insert) := by
  intro pins s σ H x xs v us Q I rx rs hh
  obtain ⟨G, F, m, h, W, a, ds, rl, ra, rd, p⟩ := hh
  have p : Pst X.K XT W G F m (insH h a ds) (ZV X.K Q) := p
  unfold insH at p
  split at p
  · obtain ⟨i, es, d, es', q, vs, ef, rfl, e1, r2, b, k⟩ := onL_inv rl ra p
    obtain ⟨hz, e2⟩ := some_if ef
    cases e2
    obtain ⟨w0, w, rfl, r0, r1⟩ := rd.two
    refine mt_insert pins s σ H _ _ v us Q I rx rs ⟨q, vs, _, w, rfl, by rw [rp_int r0], e1, by rw [← SLe, ← r2.len]; exact hz.1, hz.2.1, hz.2.2.1, k _ (((r2.take _).app (.mk r1 .mk0)).app (r2.drop _)) ?_ _ mk_non⟩
    refine belows_app (belows_app ?_ (belows_one hz.2.2.2)) ?_
    · rw [belows_mem] at b ⊢; exact fun x hx => b x (List.mem_of_mem_take hx)
    · rw [belows_mem] at b ⊢; exact fun x hx => b x (List.mem_of_mem_drop hx)
  · exact p.elim
theorem join_tl : ∀ ys : List (List Nat), (Str.join (strOfL S) (ys.map strOfL)).cps.toList = joinL S ys
  | [] => rfl
  | [p] => by simp [Str.join, joinL, strOfL]
  | p :: q :: r => by
    have ih := join_tl (S := S) (q :: r)
    show (strOfL p ++ strOfL S ++ Str.join (strOfL S) ((q :: r).map strOfL)).cps.toList = p ++ (S ++ joinL S (q :: r))
    rw [← ih]
    show (Str.append (Str.append (strOfL p) (strOfL S)) _).cps.toList = _
    simp [Str.append, strOfL]
theorem strsL_ok {K : PySem.W.Frag} {F : Hp} {m : List Addr} : ∀ {ds : List D} {vs : List V} {ns : List (List Nat)}, strsL ds = some ns → Rps K F m ds vs → vs = (ns.map strOfL).map .str
  | [], _, _, e, r => by cases e; rw [r.nil]; rfl
  | d :: ds, vs, ns, e, r => by
    obtain ⟨v, q, rfl, r1, r2⟩ := r.cons
    cases d with
    | str i =>
      unfold strsL at e
      obtain ⟨ns', e1, rfl⟩ := Option.map_eq_some_iff.mp e
      rw [rp_str r1, strsL_ok e1 r2]; rfl
    | _ => cases e
theorem m_join : MtR X "str.join" (rM X.K XT .join) := by
  intro pins s σ H x xs v us Q I rx rs hh
  obtain ⟨G, F, m, h, W, a, ds, rl, ra, rd, p⟩ := hh
  have p : Pst X.K XT W G F m (joinH h a ds) (ZV X.K Q) := p
  unfold joinH at p
  split at p
  · split at p
    · rename_i sep ys e1 _
      split at p
      · rename_i hz
        obtain ⟨es, e2, e3⟩ := Option.bind_eq_some_iff.mp e1
        obtain ⟨w, rfl, r1⟩ := rd.one
        obtain ⟨q, vs, rfl, hq, r2⟩ := seqV_ok rl r1 e2
        rw [strsL_ok e3 r2] at hq
        refine mt_join pins s σ H _ _ v us Q I rx rs ⟨strOfL sep, q, ys.map strOfL, rp_str ra, rfl, hq, ?_, ?_⟩
        · rw [List.length_map, strLen, List.map_map]
          have : (fun x => Str.length x) ∘ strOfL = fun x : List Nat => x.length := by funext z; exact strLen
          rw [show ((fun x => x.length) ∘ strOfL : List Nat → Nat) = fun x : List Nat => x.length from this]
          exact hz
        · have e5 : Txt.join (strOfL sep) (ys.map strOfL) = strOfL (joinL sep ys) := by
            rw [show Txt.join (strOfL sep) (ys.map strOfL) = Str.join (strOfL sep) (ys.map strOfL) from TL.join_eq _ _, ← join_tl]
            simp [strOfL]
          rw [e5]
          exact p _ _ _ .refl rl _ mk_str
      · exact p.elim
    · exact p.elim
  · exact p.elim
theorem ends_eq (x y : List Nat) : Txt.endswith (strOfL x) (strOfL y) = endsL x y := by
  unfold Txt.endswith endsL
  rw [StrLaws.subAt_eq, strLen, strLen, Nat.zero_add]
  simp [strOfL]
theorem m_endswith : MtR X "str.endswith" (rM X.K XT .endswith) := by
  intro pins s σ H x xs v us Q I rx rs hh
  obtain ⟨G, F, m, h, W, a, ds, rl, ra, rd, p⟩ := hh
  have p : Pst X.K XT W G F m (endH h a ds) (ZV X.K Q) := p
  unfold endH at p
  split at p
  · split at p
    · obtain ⟨w, rfl, r1⟩ := rd.one
      refine mt_endswith pins s σ H _ _ v us Q I rx rs ⟨_, _, rp_str ra, by rw [rp_str r1], ?_⟩
      rw [ends_eq]
      exact p _ _ _ .refl rl _ mk_bl
    · exact p.elim
  · exact p.elim
def rSt (K : PySem.W.Frag) : TSet := fun o i v H Q => ∃ G F m h a b d h', Rel K G F m h H ∧ Rp K F m a o ∧ Rp K F m b i ∧ Rp K F m d v ∧ stiH h a b d = some h' ∧ ∀ F' m' H', Ext F m F' m' → Rel K G F' m' h' H' → Q H'
theorem any_kv {k : D} {κ : Key} (ek : keyOf k = some κ) : ∀ {ks : List D} {kvs : List (Key × V)}, ks.map keyOf = kvs.map (fun p => some p.1) → ks.any (fun k' => keyEq k' k) = kvs.any fun kv => decide (kv.1 = κ)
  | [], [], _ => rfl
  | [], _ :: _, h => by simp at h
  | _ :: _, [], h => by simp at h
  | k' :: ks, p :: kvs, h => by
    simp only [List.map_cons, List.cons.injEq] at h
    rw [List.any_cons, List.any_cons, any_kv ek h.2, keyEq_iff h.1 ek]
theorem rep_kv {K : PySem.W.Frag} {F : Hp} {m : List Addr} {k d : D} {κ : Key} {v : V} (ek : keyOf k = some κ) (rd : Rp K F m d v) : ∀ {ks ds : List D} {kvs : List (Key × V)}, ks.map keyOf = kvs.map (fun p => some p.1) → Rps K F m ds (kvs.map (·.2)) →
    Rps K F m (dRep k d ks ds) ((kvs.map fun kv => if kv.1 = κ then (kv.1, v) else kv).map (·.2))
  | [], [], [], _, _ => .mk0
  | [], _ :: _, [], _, r => by have := r.len; simp at this
  | [], _, _ :: _, h, _ => by simp at h
  | _ :: _, _, [], h, _ => by simp at h
  | k' :: ks, [], p :: kvs, h, r => by have := r.len; simp at this
  | k' :: ks, w :: ds, p :: kvs, h, r => by
    simp only [List.map_cons, List.cons.injEq] at h
    obtain ⟨u, us, eu, r1, r2⟩ := r.cons
    simp only [List.map_cons, List.cons.injEq] at eu
    obtain ⟨rfl, rfl⟩ := eu
    have ih := rep_kv ek rd h.2 r2
    rw [List.map_cons, List.map_cons]
    unfold dRep
    rw [keyEq_iff h.1 ek]
    by_cases c : p.1 = κ
    · rw [if_pos (by simpa using c), if_pos c]; exact .mk rd ih
    · rw [if_neg (by simpa using c), if_neg c]; exact .mk r1 ih
theorem put_kv {K : PySem.W.Frag} {F : Hp} {m : List Addr} {k d : D} {κ : Key} {v : V} {ks ds : List D} {kvs : List (Key × V)} (ek : keyOf k = some κ) (rd : Rp K F m d v) (h : ks.map keyOf = kvs.map (fun p => some p.1)) (r : Rps K F m ds (kvs.map (·.2))) :
    (dPutK k ks).map keyOf = (putK kvs κ v).map (fun p => some p.1) ∧ Rps K F m (dPutV k d ks ds) ((putK kvs κ v).map (·.2)) := by
  unfold dPutK dPutV putK
  rw [any_kv ek h]
  split
  · refine ⟨?_, rep_kv ek rd h r⟩
    rw [h, List.map_map]
    apply List.map_congr_left
    intro p _
    show some p.1 = some (if p.1 = κ then (p.1, v) else p).1
    split <;> rfl
  · refine ⟨?_, ?_⟩
    · rw [List.map_append, List.map_append, h, List.map_cons, List.map_nil, ek]; rfl
    · rw [List.map_append]
      exact r.app (.mk rd .mk0)
theorem bel_putK {n : Nat} {k : D} {ks : List D} (h : belows n ks = true) (ik : isKey k = true) : belows n (dPutK k ks) = true := by
  unfold dPutK
  split
  · exact h
  · exact belows_app h (belows_one (by cases k <;> first | (unfold below; rfl) | cases ik))
theorem bel_rep {n : Nat} {k d : D} (hd : below n d = true) : ∀ {ks ds : List D}, belows n ds = true → belows n (dRep k d ks ds) = true
  | [], ds, _ => by unfold dRep belows; rfl
  | _ :: _, [], _ => by unfold dRep belows; rfl
  | k' :: ks, w :: ds, h => by
    obtain ⟨h1, h2⟩ := belows_cons h
    unfold dRep belows
    rw [bel_rep hd h2, Bool.and_true]
    split
    · exact hd
    · exact h1
theorem bel_putV {n : Nat} {k d : D} {ks ds : List D} (h : belows n ds = true) (hd : below n d = true) : belows n (dPutV k d ks ds) = true := by
  unfold dPutV
  split
  · exact bel_rep hd h
  · exact belows_app h (belows_one hd)
theorem op_sti (hu : X.A.units + 1 < cLine) : PSet X (rSt X.K) := by
  intro pins s σ H o i v ov iv u Q I ro ri rv hh
  obtain ⟨G, F, m, h, a, b, d, h', rl, ra, rb, rd, e, q⟩ := hh
  unfold stiH at e
  split at e
  · split at e
    · rename_i hc
      split at e
      · split at e
        · rename_i j hj
          split at e
          · rename_i hb
            cases e
            obtain ⟨p, vs, rfl, g, f, e1, r2, bb⟩ := cell_lst rl ra hc
            refine set_list pins s σ H _ i v ov iv u Q I ro ri rv ⟨p, vs, _, j, rfl, rp_int rb, e1, by rw [← r2.len]; exact hj, ?_⟩
            refine q _ _ _ .refl (rl.wr hc g f ⟨f, _, upd_same, r2.set rd⟩ ?_)
            show belows _ _ = true
            exact belows_set hb bb
          · cases e
        · cases e
      · cases e
    · rename_i ks ds hc
      split at e
      · rename_i hb
        cases e
        simp only [Bool.and_eq_true, decide_eq_true_eq] at hb
        obtain ⟨⟨ik, bd⟩, hl⟩ := hb
        obtain ⟨p, rfl, g⟩ := rp_ref ra
        obtain ⟨⟨f, kvs, e1, ek, r2⟩, bb⟩ := rl.cell _ _ p hc g
        obtain ⟨κ, eκ⟩ := keyOf_some ik
        have hlen : kvs.length < sizeLine := by
          have := congrArg List.length ek
          rw [List.length_map, List.length_map] at this
          rw [← this, ← SLe]; exact hl
        obtain ⟨ek2, r3⟩ := put_kv (v := v) eκ rd ek r2
        have bb : (belows _ ks && belows _ ds) = true := bb
        rw [Bool.and_eq_true] at bb
        refine set_dict hu pins s σ H _ i v ov iv u Q I ro ri rv ⟨p, _, rfl, by rw [key_v eκ rb]; exact DPut.k e1 hlen, ?_⟩
        refine q _ _ _ .refl (rl.wr hc g f ⟨f, _, upd_same, ek2, r3⟩ ?_)
        show (belows _ _ && belows _ _) = true
        rw [bel_putK bb.1 ik, bel_putV bb.2 bd]; rfl
      · cases e
    · cases e
  · cases e
end
end MP

set_option maxHeartbeats 2000000
/-! A tuple numbered: enumerate over a tuple, as the library's generic rows allow it. -/
namespace MP
open PySem PySem.Spec PyProof.Rows L2

theorem new_enum {v : Value} {o : Obj} {Y : Heap → Prop} (B : Begins v o Y) :
    Meets (Builtin.«enumerate.__new__» ⟨[.type "enumerate", v], []⟩) (fun _ R z => Y z.heap ∧
      R (.ok (.ret (.ref (z.heap.push o).objs.size))) { z with heap := (z.heap.push o).push { cls := .type "enumerate", data := .fields #[.none, .bool false, .ref z.heap.objs.size, rawInt 0, .none, .none] } }) :=
  .of_wp fun pr wo Ar R z ⟨y, yr⟩ => by
    obtain ⟨a1, a2, a3, a4, a5⟩ := z
    have sb := sub_enumerate
    have it1 : ∀ {A2 : Around} {E : Value → Shared → Prop} {Q : Value → Shared → Prop}, Q (.ref a1.objs.size) ⟨a1.push o, a2, a3, a4, a5⟩ → wpAny (model pr wo) A2 (pyIter v) Q E ⟨a1, a2, a3, a4, a5⟩ :=
      fun k => B.iter pr wo _ _ ⟨a1, a2, a3, a4, a5⟩ _ y k
    wp_walk using it1
    refine wpAny_stack_any fun stk => wpAny_pure ?_
    split
    · rename_i cc _ _ _ _ _
      cases (cc == Value.type "enumerate") <;> (wp_walk using it1; exact ⟨_, rfl, yr⟩)
    · wp_walk using it1; exact ⟨_, rfl, yr⟩
theorem call_enum {pr : Program} {wo : World} {Ar : Around} {E : Value → Shared → Prop} {z : Shared} {v : Value} {o : Obj} {Y : Heap → Prop} {Q : Value → Shared → Prop} (B : Begins v o Y) (y : Y z.heap)
    (k : ∀ g, IsEnum g (z.heap.objs.size + 1) z.heap.objs.size 0 .none → g.get? z.heap.objs.size = some o → (∀ b ob, z.heap.get? b = some ob → g.get? b = some ob) → Q (.ref (z.heap.objs.size + 1)) { z with heap := g }) :
    wpAny (model pr wo) Ar (call (.type "enumerate") [v]) Q E z := by
  refine callType_new F.called_enumerate (by decide) (F.typeCall_enumerate_1 _) (F.newCall_enumerate_1 _) (fun ob => F.args_object_init_2 ob _) F.entry_enumerate_new (new_enum B) ⟨y, ?_⟩
  have sz : (z.heap.push o).objs.size = z.heap.objs.size + 1 := Heap.size_push ..
  show _ ∧ _
  rw [sz]
  have en : IsEnum ((z.heap.push o).push { cls := .type "enumerate", data := .fields #[.none, .bool false, .ref z.heap.objs.size, rawInt 0, .none, .none] }) (z.heap.objs.size + 1) z.heap.objs.size 0 .none := by
    have q := Heap.get?_push_size (z.heap.push o) (o := { cls := .type "enumerate", data := .fields #[.none, .bool false, .ref z.heap.objs.size, rawInt 0, .none, .none] }) rfl
    rwa [sz] at q
  exact ⟨⟨_, en, rfl⟩, k _ en (Heap.get?_push_of_some _ (Heap.get?_push_size _ B.free)) fun b ob q => Heap.get?_push_of_some _ (Heap.get?_push_of_some _ q)⟩

/-- the tuple at a, each item with its number -/
def EnT (K : PySem.W.Frag) (a : Addr) : L2.It :=
  ⟨fun n H => ∃ (vs : List V) (x : V), SqT K H a vs ∧ vs[n]? = some x,
   fun n H r H2 => ∃ p x, r = .ref p ∧ H p = none ∧ H2 = upd H p (.tup [.int (n : Nat), x]) ∧ ∀ vs, SqT K H a vs → vs[n]? = some x,
   fun n H => ∃ vs : List V, SqT K H a vs ∧ vs.length = n⟩
theorem cls_ne {g : Heap} {a b : Addr} {o : Obj} {n : String} {its : Array Value} (e : g.get? a = some o) (c : o.cls = .type n) (t : g.IsTuple b its) (ne : n ≠ "tuple") : a ≠ b := fun q => by
  subst q
  obtain ⟨o2, e2, c2, _⟩ := t
  rw [e] at e2
  cases e2
  have c3 : o.cls = .type "tuple" := c2
  rw [c] at c3
  injection c3 with c3
  exact ne c3
theorem en_turn {P : Program} {w : World} {K : PySem.W.Frag} {elts : List Expr} {kk : Nat} {tpos : Pos} (a e it : Addr) :
    Turn P w K (.Tuple elts kk tpos) (EnT K a) [e, it] e (fun n g => (∃ old, IsEnum g e it ((n : Nat) : Int) old) ∧ g.IsTupleIter it a n ∧ e ≠ it) where
  mem := by simp
  obj := fun n g st b hb => by
    obtain ⟨⟨old, en⟩, ⟨o, o1, o2, o3⟩, _⟩ := st
    rcases (show b = e ∨ b = it by simpa using hb) with z | z <;> subst z
    · exact ⟨_, en, fun v q => nomatch q⟩
    · exact ⟨o, o1, fun v q => by rw [o3] at q; cases q⟩
  keep := fun n g g2 st k => ⟨⟨st.1.choose, k e (by simp) _ st.1.choose_spec⟩, st.2.1.at fun o q => k it (by simp) o q, st.2.2⟩
  item := by
    intro X q1 q2 q3 hc n pins s σ H E I hf st hg
    subst q1 q2 q3
    obtain ⟨⟨old, en⟩, ti, ne⟩ := st
    obtain ⟨vs, x, sq, ex⟩ := hg
    obtain ⟨its, rv, tu, _⟩ := I.tuple sq
    obtain ⟨u, eu, ru⟩ := rv.get ex
    have ln : n < its.toArray.size := by
      have := (List.getElem?_eq_some_iff.mp eu).1
      simpa using this
    have eit : a ≠ it := by
      obtain ⟨o, o1, o2, _⟩ := id ti
      exact (cls_ne o1 o2 tu (by decide)).symm
    have ea : e ≠ a := cls_ne en rfl tu (by decide)
    have le : e < s.heap.objs.size := Heap.lt_size en
    have li : it < s.heap.objs.size := by obtain ⟨_, o1, _⟩ := ti; exact Heap.lt_size o1
    have D := Draws.tuple (prog := X.prog) (w := X.w) (A := X.A.in1) (show X.A.in1.handled = none from I.ok.hd hc) it a eit its.toArray
    refine wpAny_pyNext_enum_itemD D en ⟨ti, tu⟩ ln ne (by simp [ne, ea]) fun y g tk hy out st2 gt _ kp => ?_
    have ey : y = u := by
      have : its.toArray[n]? = some u := by simpa using eu
      rw [this] at hy; cases hy; rfl
    subst ey
    refine ⟨_, rfl, wpAny_letOwnedTupleGo_enum (s := { s with heap := g, toks := tk + 1 }) out fun g2 en2 sb => ?_⟩
    have gt2 : g2.get? s.heap.objs.size = some { cls := .type "tuple", data := .seq #[.int n tk, y] } := (sb.2 _ (Nat.ne_of_gt le)).trans gt
    have made : ObjOk X.prog X.w (upd H s.heap.objs.size (.tup [.int (n : Nat), x])) g2 s.heap.objs.size (.tup [.int (n : Nat), x]) :=
      ⟨show 2 ≤ sizeLine by decide, [.int n tk, y], .cons ⟨_, rfl⟩ (.cons ru .nil), ⟨_, gt2, rfl, _, rfl⟩⟩
    have J : Inv X pins σ (upd H s.heap.objs.size (.tup [.int (n : Nat), x])) { s with heap := g2, toks := tk + 1 } :=
      I.turnedNew (ch := [e, it]) (fun b ob nb q => (sb.2 b fun z => nb (by simp [z])).trans (kp b ob (fun z => nb (by simp [z])) (fun z => nb (by simp [z])) q)) hf (Nat.le_refl _) made
    refine ⟨.ref s.heap.objs.size, _, J, rfl, ⟨_, x, rfl, I.hok.fresh (Nat.le_refl _), rfl, fun ys hy => by rw [I.tuple_inj hy sq]; exact ex⟩, ⟨⟨y, ?_⟩, st2.1.at fun o q => (sb.2 it (Ne.symm ne)).trans q, ne⟩, fun b hb => ?_⟩
    · rw [show ((n + 1 : Nat) : Int) = (n : Int) + 1 by omega]; exact en2
    · have lb : b < s.heap.objs.size := by
        rcases (show b = e ∨ b = it by simpa using hb) with z | z <;> subst z <;> assumption
      rw [upd_ne (Nat.ne_of_lt lb)]
      exact (hf b hb).1
  done := by
    intro X q1 q2 q3 hc n pins s σ H E I hf st hg
    subst q1 q2 q3
    obtain ⟨⟨old, en⟩, ti, ne⟩ := st
    obtain ⟨vs, sq, ex⟩ := hg
    obtain ⟨its, rv, tu, _⟩ := I.tuple sq
    obtain ⟨f0, f1, f2, f3, f4, f5⟩ := hf it (by simp)
    have lv := rv.length
    have eit : a ≠ it := by
      obtain ⟨o, o1, o2, _⟩ := id ti
      exact (cls_ne o1 o2 tu (by decide)).symm
    have D := Draws.tuple (prog := X.prog) (w := X.w) (A := X.A.in1) (show X.A.in1.handled = none from I.ok.hd hc) it a eit its.toArray
    have en' : n = its.toArray.size := by simp; omega
    subst en'
    exact wpAny_pyNext_enum_endD D en ⟨ti, tu⟩ fun g kp => ⟨rfl, I.turned (t' := s.toks) (fun b o nb q => kp b o nb q) f0 f1 f3 f4 f5⟩
  self := fun A n s Q E st h => wpAny_pyIter_enum st.1.choose_spec h
def iEn (K : PySem.W.Frag) (ta : TA) : TI := fun σ H R => ta σ H fun vs H1 => ∃ a xs, vs = [.ref a] ∧ ((SqL K H1 a xs ∧ R (Ite K a) H1) ∨ (SqT K H1 a xs ∧ R (EnT K a) H1))
theorem pi_en {X : Cx} {e : Expr} {ta : TA} {p pos tpos : Pos} {elts : List Expr} {kk : Nat} (hg : Gl X "enumerate") (hm : X.mg "enumerate" = none) (ha : PA X [e] ta) (hs : starEach [e] X.env = [(false, eval e X.env)]) :
    PI X (.Tuple elts kk tpos) (.Call (.Name "enumerate" p) [e] [] pos) (iEn X.K ta) := by
  refine ⟨fun pins s σ H R I h => Call_ (ld_blt I hg hm boot_enumerate (PyProof.Rows.callWith_type1 (thn (ha.run pos pins s σ H _ I h) fun us s1 ⟨vs, H1, I1, r1, k⟩ => ?_) hs rfl))⟩
  obtain ⟨a, xs, rfl, k⟩ := k
  cases r1 with
  | cons r rr =>
    cases rr
    cases r
    have fresh2 : ∀ b, b ∈ [s1.heap.objs.size + 1, s1.heap.objs.size] → FpOk X pins H1 b := fun b hb => by
      have hle : s1.heap.objs.size ≤ b := by
        rcases (show b = s1.heap.objs.size + 1 ∨ b = s1.heap.objs.size by simpa using hb) with z | z <;> rw [z]
        · exact Nat.le_succ _
        · exact Nat.le_refl _
      exact I1.fpOk hle (I1.hok.fresh hle)
    rcases k with ⟨sq, k⟩ | ⟨sq, k⟩
    · obtain ⟨its, rv, li, _⟩ := I1.list sq
      refine call_enumerate_list li.isList fun g en hit _ kp => wpAny_pyIter_enum en ?_
      exact ⟨s1.heap.objs.size + 1, [s1.heap.objs.size + 1, s1.heap.objs.size], _, _, H1, rfl, I1.kept (t' := s1.toks) kp, turn_enum a (s1.heap.objs.size + 1) s1.heap.objs.size, ⟨⟨.none, en⟩, hit, Nat.succ_ne_self _⟩, fresh2, k⟩
    · obtain ⟨its, rv, tu, _⟩ := I1.tuple sq
      refine call_enum (begins_tuple a its.toArray) (show s1.heap.IsTuple a its.toArray from tu) fun g en gi kp => wpAny_pyIter_enum en ?_
      exact ⟨s1.heap.objs.size + 1, [s1.heap.objs.size + 1, s1.heap.objs.size], _, _, H1, rfl, I1.kept (t' := s1.toks) kp, en_turn a (s1.heap.objs.size + 1) s1.heap.objs.size, ⟨⟨.none, en⟩, ⟨_, gi, rfl, rfl⟩, Nat.succ_ne_self _⟩, fresh2, k⟩
end MP

set_option maxHeartbeats 2000000
/-! zip over a list and a tuple, in any mix, as the library's generic rows allow it. -/
namespace MP
open PySem PySem.Spec PyProof.Rows L2
def SqM (t : Bool) (K : PySem.W.Frag) (H : Hp) (a : Addr) (xs : List V) : Prop := if t = true then SqT K H a xs else SqL K H a xs
def InM (t : Bool) (h : Heap) (it a : Addr) (i : Nat) : Prop := if t = true then h.IsTupleIter it a i else h.IsListIter it a i
def ObM (t : Bool) (h : Heap) (a : Addr) (its : Array Value) : Prop := if t = true then h.IsTuple a its else h.IsList a its
def ItM (t u : Bool) (K : PySem.W.Frag) (a b : Addr) : L2.It :=
  ⟨fun n H => ∃ (xs ys : List V) (x y : V), SqM t K H a xs ∧ SqM u K H b ys ∧ xs[n]? = some x ∧ ys[n]? = some y,
   fun n H r H2 => ∃ p x y, r = .ref p ∧ H p = none ∧ H2 = upd H p (.tup [x, y]) ∧ (∀ xs, SqM t K H a xs → xs[n]? = some x) ∧ ∀ ys, SqM u K H b ys → ys[n]? = some y,
   fun n H => ∃ xs ys : List V, SqM t K H a xs ∧ SqM u K H b ys ∧ n ≤ xs.length ∧ n ≤ ys.length ∧ (n = xs.length ∨ n = ys.length)⟩
section
variable {X : Cx} {pins : List (Addr × Obj)} {σ : Stt} {H : Hp} {s : Shared}
theorem sqm_ok {t : Bool} {a : Addr} {xs : List V} (I : L2.Inv X pins σ H s) (q : SqM t X.K H a xs) : ∃ its, Vals xs its ∧ ObM t s.heap a its.toArray ∧ a < s.heap.objs.size := by
  cases t
  · obtain ⟨its, rv, p, _⟩ := I.list q
    exact ⟨its, rv, p.isList, p.lt⟩
  · obtain ⟨its, rv, p, _⟩ := I.tuple q
    obtain ⟨o, ho, _⟩ := id p
    exact ⟨its, rv, p, Heap.lt_size ho⟩
theorem sqm_inj {t : Bool} {a : Addr} {xs ys : List V} (I : L2.Inv X pins σ H s) (q : SqM t X.K H a xs) (r : SqM t X.K H a ys) : ys = xs := by
  cases t
  · exact I.list_inj r q
  · exact I.tuple_inj r q
end
theorem inM_at {t : Bool} {h h' : Heap} {it a : Addr} {i : Nat} (st : InM t h it a i) (k : ∀ o, h.get? it = some o → h'.get? it = some o) : InM t h' it a i := by
  cases t
  · exact Heap.IsListIter.at st fun o e => k o e
  · exact Heap.IsTupleIter.at st fun o e => k o e
theorem inM_obj {t : Bool} {h : Heap} {it a : Addr} {i : Nat} (st : InM t h it a i) : ∃ o, h.get? it = some o ∧ ∀ v, o.data ≠ .cell v := by
  cases t
  · obtain ⟨o, e, _, d⟩ := (show h.IsListIter it a i from st)
    exact ⟨o, e, fun v q => by rw [d] at q; cases q⟩
  · obtain ⟨o, e, _, d⟩ := (show h.IsTupleIter it a i from st)
    exact ⟨o, e, fun v q => by rw [d] at q; cases q⟩
theorem drawsM {P : Program} {w : World} {A : Around} (hh : A.handled = none) (t : Bool) (it a : Addr) (ne : a ≠ it) (its : Array Value) :
    Draws P w A it [it, a] its.size (fun i v => its[i]? = some v) (fun i h => InM t h it a i ∧ ObM t h a its) := by
  cases t
  · exact Draws.list hh it a ne its
  · exact Draws.tuple hh it a ne its
theorem begM (t : Bool) (a : Addr) (its : Array Value) : ∃ o : Obj, Begins (.ref a) o (fun h => ObM t h a its) ∧ ∀ (h : Heap) (it : Addr), h.get? it = some o → InM t h it a 0 := by
  cases t
  · exact ⟨_, begins_list a its, fun h it e => ⟨_, e, rfl, rfl⟩⟩
  · exact ⟨_, begins_tuple a its, fun h it e => ⟨_, e, rfl, rfl⟩⟩
theorem turn_zm {P : Program} {w : World} {K : PySem.W.Frag} {elts : List Expr} {kk : Nat} {tpos : Pos} {t u : Bool} {a b z TI TO i1 i2 : Addr} (S : ZipSep2 z TI TO i1 i2 [i1, a] [i2, b]) :
    Turn P w K (.Tuple elts kk tpos) (ItM t u K a b) [z, TI, TO, i1, i2] z (fun n g => IsZip g z TI TO .none ∧ IsTupOf2 g TI (.ref i1) (.ref i2) ∧ (∃ x y, IsTupOf2 g TO x y) ∧ InM t g i1 a n ∧ InM u g i2 b n) where
  mem := by simp
  obj := fun n g st c hc => by
    obtain ⟨hz, hTI, ⟨x, y, hTO⟩, h1, h2⟩ := st
    simp only [List.mem_cons, List.not_mem_nil, or_false] at hc
    rcases hc with rfl | rfl | rfl | rfl | rfl
    · exact ⟨_, hz, fun v q => nomatch q⟩
    · exact ⟨_, hTI, fun v q => nomatch q⟩
    · exact ⟨_, hTO, fun v q => nomatch q⟩
    · exact inM_obj h1
    · exact inM_obj h2
  keep := fun n g g2 st k => by
    obtain ⟨hz, hTI, ⟨x, y, hTO⟩, h1, h2⟩ := st
    exact ⟨k z (by simp) _ hz, k TI (by simp) _ hTI, ⟨x, y, k TO (by simp) _ hTO⟩, inM_at h1 fun o q => k i1 (by simp) o q, inM_at h2 fun o q => k i2 (by simp) o q⟩
  item := by
    intro X q1 q2 q3 hc n pins s σ H E I hf st hg
    subst q1 q2 q3
    obtain ⟨hz, hTI, ⟨x0, y0, hTO⟩, h1, h2⟩ := st
    obtain ⟨xs, ys, x, y, sx, sy, ex, ey⟩ := hg
    obtain ⟨its, rv, ob, _⟩ := sqm_ok I sx
    obtain ⟨jts, rw', oc, _⟩ := sqm_ok I sy
    obtain ⟨v, ev, rx⟩ := rv.get ex
    obtain ⟨v2, ev2, ry⟩ := rw'.get ey
    have hzl : z < s.heap.objs.size := Heap.lt_size hz
    have hd := show X.A.in1.handled = none from I.ok.hd hc
    have ni : a ≠ i1 := fun q => S.sep2_1.elim (by
      exfalso
      have := S.zi1
      exact (by
        have hne : i1 ≠ a := fun _ => by
          obtain ⟨o, e1, _⟩ := inM_obj h1
          cases t
          · obtain ⟨o1, e, c1, _⟩ := (show s.heap.IsListIter i1 a n from h1)
            obtain ⟨o2, e2, c2, _⟩ := (show s.heap.IsList a its.toArray from ob)
            rw [q, e] at e2
            cases e2
            rw [c1] at c2
            exact absurd c2 (by decide)
          · obtain ⟨o1, e, c1, _⟩ := (show s.heap.IsTupleIter i1 a n from h1)
            obtain ⟨o2, e2, c2, _⟩ := (show s.heap.IsTuple a its.toArray from ob)
            rw [q, e] at e2
            cases e2
            rw [c1] at c2
            exact absurd c2 (by decide)
        exact hne q.symm))
    have nj : b ≠ i2 := fun q => by
      cases u
      · obtain ⟨o1, e, c1, _⟩ := (show s.heap.IsListIter i2 b n from h2)
        obtain ⟨o2, e2, c2, _⟩ := (show s.heap.IsList b jts.toArray from oc)
        rw [q, e] at e2
        cases e2
        rw [c1] at c2
        exact absurd c2 (by decide)
      · obtain ⟨o1, e, c1, _⟩ := (show s.heap.IsTupleIter i2 b n from h2)
        obtain ⟨o2, e2, c2, _⟩ := (show s.heap.IsTuple b jts.toArray from oc)
        rw [q, e] at e2
        cases e2
        rw [c1] at c2
        exact absurd c2 (by decide)
    have l1 := (List.getElem?_eq_some_iff.mp ev).1
    have l2 := (List.getElem?_eq_some_iff.mp ev2).1
    refine wpAny_pyNext_zipD2_item S (drawsM hd t i1 a ni its.toArray) (drawsM hd u i2 b nj jts.toArray) hz hTI hTO ⟨h1, ob⟩ ⟨h2, oc⟩ (by simpa using l1) (by simpa using l2) fun w1 w2 g tk p1 p2 z1 t1 s1 s2 gt sz kp => ?_
    have e1 : w1 = v := by
      have : its.toArray[n]? = some v := by simpa using ev
      rw [this] at p1; cases p1; rfl
    have e2 : w2 = v2 := by
      have : jts.toArray[n]? = some v2 := by simpa using ev2
      rw [this] at p2; cases p2; rfl
    subst e1 e2
    refine ⟨_, rfl, wpAny_letOwnedTupleGo_zip (s := { s with heap := g, toks := tk }) z1 fun g2 z2 sb => ?_⟩
    have gt2 : g2.get? s.heap.objs.size = some { cls := .type "tuple", data := .seq #[w1, w2] } := (sb.2 _ (Nat.ne_of_gt hzl)).trans gt
    have made : ObjOk X.prog X.w (upd H s.heap.objs.size (.tup [x, y])) g2 s.heap.objs.size (.tup [x, y]) :=
      ⟨show 2 ≤ sizeLine by decide, [w1, w2], .cons rx (.cons ry .nil), ⟨_, gt2, rfl, _, rfl⟩⟩
    have J : Inv X pins σ (upd H s.heap.objs.size (.tup [x, y])) { s with heap := g2, toks := tk } :=
      I.turnedNew (ch := [z, TI, TO, i1, i2]) (fun c o nc q => (sb.2 c fun q' => nc (by simp [q'])).trans (kp c o (fun q' => nc (by simp [q'])) (fun q' => nc (by simp [q'])) (fun q' => nc (by simp [q'])) (fun q' => nc (by simp [q'])) q)) hf (Nat.le_refl _) made
    refine ⟨.ref s.heap.objs.size, _, J, rfl, ⟨_, x, y, rfl, I.hok.fresh (Nat.le_refl _), rfl, fun l hl => by rw [sqm_inj I sx hl]; exact ex, fun l hl => by rw [sqm_inj I sy hl]; exact ey⟩, ⟨z2, ?_, ⟨w1, w2, ?_⟩, ?_, ?_⟩, fun c hcm => ?_⟩
    · exact (sb.2 _ S.TIz).trans (kp _ _ S.TIz S.TITO S.TIi1 S.TIi2 hTI)
    · exact (sb.2 _ S.TOz).trans t1
    · exact inM_at s1.1 fun o q => (sb.2 _ (Ne.symm S.zi1)).trans q
    · exact inM_at s2.1 fun o q => (sb.2 _ (Ne.symm S.zi2)).trans q
    · have hlt : c < s.heap.objs.size := by
        simp only [List.mem_cons, List.not_mem_nil, or_false] at hcm
        rcases hcm with rfl | rfl | rfl | rfl | rfl
        · exact hzl
        · exact Heap.lt_size hTI
        · exact Heap.lt_size hTO
        · obtain ⟨_, e, _⟩ := inM_obj h1; exact Heap.lt_size e
        · obtain ⟨_, e, _⟩ := inM_obj h2; exact Heap.lt_size e
      rw [upd_ne (Nat.ne_of_lt hlt)]
      exact (hf c hcm).1
  done := by
    intro X q1 q2 q3 hc n pins s σ H E I hf st hg
    subst q1 q2 q3
    obtain ⟨hz, hTI, ⟨x0, y0, hTO⟩, h1, h2⟩ := st
    obtain ⟨xs, ys, sx, sy, e1, e2, e3⟩ := hg
    obtain ⟨its, rv, ob, _⟩ := sqm_ok I sx
    obtain ⟨jts, rw', oc, _⟩ := sqm_ok I sy
    have hd := show X.A.in1.handled = none from I.ok.hd hc
    have l1 := rv.length
    have l2 := rw'.length
    have ne_of : ∀ {t : Bool} {it a : Addr} {its : Array Value}, InM t s.heap it a n → ObM t s.heap a its → a ≠ it := fun {t it a its} h1 ob q => by
      cases t
      · obtain ⟨o1, e, c1, _⟩ := (show s.heap.IsListIter it a n from h1)
        obtain ⟨o2, e2, c2, _⟩ := (show s.heap.IsList a its from ob)
        rw [q, e] at e2
        cases e2
        rw [c1] at c2
        exact absurd c2 (by decide)
      · obtain ⟨o1, e, c1, _⟩ := (show s.heap.IsTupleIter it a n from h1)
        obtain ⟨o2, e2, c2, _⟩ := (show s.heap.IsTuple a its from ob)
        rw [q, e] at e2
        cases e2
        rw [c1] at c2
        exact absurd c2 (by decide)
    exact wpAny_pyNext_zipD2_end S (drawsM hd t i1 a (ne_of h1 ob) its.toArray) (drawsM hd u i2 b (ne_of h2 oc) jts.toArray) hz hTI hTO ⟨h1, ob⟩ ⟨h2, oc⟩ (by simp; omega) (by simp; omega) (by simp; omega) fun g tk kp =>
      ⟨rfl, I.turnedL (ch := [z, TI, TO, i1, i2]) (fun c o nc q => kp c o (fun q' => nc (by simp [q'])) (fun q' => nc (by simp [q'])) (fun q' => nc (by simp [q'])) (fun q' => nc (by simp [q'])) q) hf⟩
  self := fun A n s Q E st h => wpAny_pyIter_zip st.1 h
def iZM (K : PySem.W.Frag) (ta : TA) : TI := fun σ H R => ta σ H fun vs H1 => ∃ a b xs ys, vs = [.ref a, .ref b] ∧ ∃ t u, SqM t K H1 a xs ∧ SqM u K H1 b ys ∧ R (ItM t u K a b) H1
theorem pi_zm {X : Cx} {e e2 : Expr} {ta : TA} {p pos tpos : Pos} {elts : List Expr} {kk : Nat} (hg : Gl X "zip") (hm : X.mg "zip" = none) (ha : PA X [e, e2] ta) (hs : starEach [e, e2] X.env = (false, eval e X.env) :: starEach [e2] X.env) (hpl : (backTo pos (starEach [e2] X.env)).any (·.1) = false) :
    PI X (.Tuple elts kk tpos) (.Call (.Name "zip" p) [e, e2] [] pos) (iZM X.K ta) := by
  refine ⟨fun pins s σ H R I h => ?_⟩
  refine Call_ (ld_blt I hg hm PyProof.Rows.boot_zip (PyProof.Rows.callWith_type1 (thn (ha.run pos pins s σ H _ I h) fun us s1 ⟨vs, H1, I1, r1, k⟩ => ?_) hs hpl))
  obtain ⟨a, b, xs, ys, ex, t, u, sx, sy, k⟩ := k
  subst ex
  cases r1 with
  | cons r rr =>
    cases rr with
    | cons r' rr =>
      cases rr
      cases r
      cases r'
      obtain ⟨its, rv, ob, la⟩ := sqm_ok I1 sx
      obtain ⟨jts, rw', oc, lb⟩ := sqm_ok I1 sy
      obtain ⟨o1, B1, n1⟩ := begM t a its.toArray
      obtain ⟨o2, B2, n2⟩ := begM u b jts.toArray
      refine zip_begins2 B1 B2 ob oc fun g hz hTI hTO g1 g2 sz kp => wpAny_pyIter_zip hz ?_
      have fresh5 : ∀ c, c ∈ [s1.heap.objs.size + 4, s1.heap.objs.size + 2, s1.heap.objs.size + 3, s1.heap.objs.size, s1.heap.objs.size + 1] → FpOk X pins H1 c := fun c hc => by
        have hle : s1.heap.objs.size ≤ c := by
          simp only [List.mem_cons, List.not_mem_nil, or_false] at hc
          rcases hc with rfl | rfl | rfl | rfl | rfl
          · exact Nat.le_add_right _ _
          · exact Nat.le_add_right _ _
          · exact Nat.le_add_right _ _
          · exact Nat.le_refl _
          · exact Nat.le_add_right _ _
        exact I1.fpOk hle (I1.hok.fresh hle)
      exact ⟨s1.heap.objs.size + 4, [s1.heap.objs.size + 4, s1.heap.objs.size + 2, s1.heap.objs.size + 3, s1.heap.objs.size, s1.heap.objs.size + 1], _, _, H1, rfl, I1.kept (t' := s1.toks) kp,
        turn_zm (zip_sep2 (fp1 := [a]) (fp2 := [b]) (by simpa using la) (by simpa using lb)), ⟨hz, hTI, ⟨_, _, hTO⟩, n1 _ _ g1, n2 _ _ g2⟩, fresh5, k⟩
end MP

set_option maxHeartbeats 2000000
/-! Defs that are entered where no container is being shown (repr asks for it): promises, calls, the law's own call. -/
namespace MP
open PySem PySem.Spec PyProof.Rows L2
/-- a def's promise, for entries where nothing guards -/
structure FnG (P : Program) (w : World) (Kf : PySem.W.Frag) (gm : Str → Option Value) (bh : Heap) (Cf : CXT) (k : Nat) (f : Addr) (fd : FuncData) (qs : List Str) (pr : Sp) : Prop where
  ln : ∀ xs H Q E, pr xs H Q E → xs.length = qs.length
  rn : ∀ (Ar : Around) (up : List PySem.Env) (z : Shared) (H : Hp) (ar : Args) (us : List Value) (xs : List V) (Q : VK) (E : XK), Room k Ar → Ar.guards = some [] → Env0 P w Kf gm bh Ar up z H → BindsTo z fd ar (qs.zip us) → Vals xs us →
    pr xs H Q E → codeAny (model P w) Ar (.call (.ref f) ar) (CR Cf up P w H z Q E) z
section
variable {X : Cx} {Cf : CXT} {k : Nat} {f : Addr} {fd : FuncData} {qs : List Str} {pr : Sp} {E : Stt → XK} {x : Str} {p pos : Pos} {e : Expr} {es : List Expr} {t : TA}
theorem run_G {pins : List (Addr × Obj)} {σ : Stt} {H : Hp} {z : Shared} {Q : VK} {us : List Value} {xs : List V} (F : FnG X.prog X.w X.K X.mg X.base Cf k f fd qs pr) (hr : Room k X.A) (hg : X.A.guards = some []) (hb : Binds X.K fd qs [])
    (hx : PassesAt Cf X σ (E σ)) (I : Inv X pins σ H z) (r : Vals xs us) (hp : pr xs H Q (E σ)) : wpAny (model X.prog X.w) X.A (call (.ref f) us) (EP X pins σ Q) X.xe z := by
  have l1 : us.length = qs.length := by rw [← r.length]; exact F.ln _ _ _ _ hp
  have b := hb z us I.kIn (by rw [List.append_nil]; exact l1)
  rw [List.append_nil] at b
  refine wpAny_call (codeAny_mono (F.rn X.A X.stack z H ⟨us, []⟩ us xs Q (E σ) hr hg I.env0 b r hp) fun r z' q => ?_)
  rcases r with er | fl
  · exact hx pins H z er z' I q
  · cases fl <;> first | exact I.after q | exact False.elim q
theorem pe_callG (F : FnG X.prog X.w X.K X.mg X.base Cf k f fd qs pr) (hr : Room k X.A) (hgd : X.A.guards = some []) (hg : Gl X x) (hm : X.mg x = some (.ref f)) (hk : PySem.W.keepIn X.K (.ref f) = true) (hb : Binds X.K fd qs [])
    (hx : ∀ σ, PassesAt Cf X σ (E σ)) (ha : PA X (e :: es) t) (hdb : (x == ("__debug__" : Str)) = false) (he : starEach (e :: es) X.env = (false, eval e X.env) :: starEach es X.env) (hpl : (backTo pos (starEach es X.env)).any (·.1) = false) :
    PE X (.Call (.Name x p) (e :: es) [] pos) (tCallS pr E t) := by
  refine ⟨fun pins z σ H Q I hh => wpAny_Call_Name_kw (ld_glob I hg hm ?_ hdb)⟩
  exact PySem.W.callWith_K (h₀ := X.base) I.ok.mod.kin hk (thn (ha.run pos pins z σ H _ I hh) fun us z1 ⟨xs, H1, I1, r, q⟩ => ⟨I1.kIn, run_G F hr hgd hb (hx σ) I1 r q⟩) he hpl
end
/-- a def by its body -/
theorem Fun_okG {P : Program} {w : World} {Kf : PySem.W.Frag} {gm : Str → Option Value} {bh : Heap} {x qual : Str} {st : Stmt} {f : Addr} {fd : FuncData} {N qs : List Str} {k : Nat} {pr : Sp} (F : L2.Fun Kf x qual st f fd) (S : FnScope N qs (defScope st))
    (ln : ∀ xs H Q E, pr xs H Q E → xs.length = qs.length)
    (hbody : ∀ (cdv : Value) (Ar : Around) (up : List PySem.Env) (z : Shared) (H : Hp) (xs : List V) (Q : VK) (E : XK), Ar.guards = some [] → Room k (Ar.deeper (envOfC qual (defScope st) z.heap.objs.size f cdv)) → pr xs H Q E →
      ∃ t, PSs (cxOf (L2.CX P w) P w Kf gm bh N qual (defScope st) f cdv Ar up z H E) (defBody st) t ∧ t { nx := fun _ H' => Q .non H', rt := Q } (L2.start N xs) H) :
    FnG P w Kf gm bh (L2.CX P w) (k + 1) f fd qs pr := by
  obtain ⟨oc, od, kV, doc, pm, an, cdv, ct, osl, rfl, lk, hcd⟩ := F.ex
  refine ⟨ln, fun Ar up z H ar us xs Q E hr hg e0 hb r hsp => ?_⟩
  have inK : Kf.In z.heap := e0.mod.kin.keeps fun b o q => (e0.bs b o q).1
  have lm : z.heap.NoLimit := e0.mod.nolimit.keeps fun b o q => (e0.bs b o q).1
  have knd : ∀ y ∈ qs.zip us, (defScope st).names.lookup y.1 = some .local ∨ ((defScope st).names.lookup y.1 = some .cell ∧ ((cellsFrom (z.heap.objs.size + 1) (defScope st).names []).lookup y.1).isSome = true) := fun ⟨n, v⟩ hy =>
    (S.par n (List.of_mem_zip hy).1).imp id fun q => ⟨q, PySem.W.cellsFrom_some _ _ _ (.inl q)⟩
  refine codeAny_call_function hr.depth (inK _ _ lk) rfl S.co S.gen rfl (PySem.W.codeRec_of inK hcd) (hb _ _ _ _ (wpAny_newFunctionEnv_cells S.kind knd fun env he z1 xx => ?_))
  subst he
  refine ⟨lm.keeps xx.toInCall.keep, codeAny_func ?_⟩
  obtain ⟨t, ht, hq⟩ := hbody cdv Ar up z H xs Q E hg (hr.deeper _) hsp
  have I0 : Inv (cxOf (L2.CX P w) P w Kf gm bh N qual (defScope st) f cdv Ar up z H E) [] (L2.start N xs) H z1 := inv_start S hr.hd e0 (ln _ _ _ _ hsp) r xx
  refine wpAny_mono (ht.run [] z1 (L2.start N xs) H _ I0 hq) (fun fl z' hs => ?_) fun _ _ hs => hs
  have fin : ∀ {σ' : Stt} {H' : Hp} {v : V} {u : Value}, Inv (cxOf (L2.CX P w) P w Kf gm bh N qual (defScope st) f cdv Ar up z H E) [] σ' H' z' → RelV v u → Q v H' → CE up P w H z Q u z' :=
    fun {σ' H' v u} J rv q => ⟨v, H', J.os, J.bare, J.base, J.hok, rv, q⟩
  cases fl with
  | ret u => obtain ⟨v, σ', H', J, rv, q⟩ := hs; exact fin J rv q
  | next => obtain ⟨σ', H', J, q⟩ := hs; exact fin (v := V.non) (u := Value.none) J rfl q
  | _ => obtain ⟨_, _, _, q⟩ := hs; exact q.elim
/-- the law's own call -/
theorem law_callG {P : Program} {w : World} {Kf : PySem.W.Frag} {gm gb : Str → Option Value} {Cf : CXT} {k : Nat} {fa a : Addr} {fd : FuncData} {x : Str} {pr : Sp} {z : Shared} {vs : List Value} {ns : List Int}
    (inK : Kf.In z.heap) (h1 : z.heap.Ns mainGlobals gm) (h2 : z.heap.Ns builtinsNs gb) (h3 : ∀ x : Str, x ≠ "__name__" → gb x = bootBuiltins x) (h4 : z.heap.NoLimit) (h5 : z.gens = #[])
    (ha : z.heap.get? a = some { cls := .type "list", data := .seq vs.toArray }) (hi : IntsAre vs ns) (hl : ns.length ≤ sizeLine) (hr : Room k callerA)
    (F : ∀ bh : Heap, Kf.In bh → bh.Ns mainGlobals gm → FnG P w Kf gm bh Cf k fa fd [x] pr) (hb : ∀ (z : Shared) (u : Value), BindsTo z fd ⟨[u], []⟩ [(x, u)])
    (hp : ∀ H : Hp, Only H → SqL Kf H a (ns.map V.int) → pr [.ref a] H (fun v _ => v = .bl true) fun _ _ _ => False)
    (hC : ∀ H e z', Cf [] H z (fun _ _ _ => False) e z' → False) :
    codeAny (model P w) callerA (.call (.ref fa) ⟨[.ref a], []⟩) (fun r z' => r = .ok (.ret (.bool true)) ∧ OldK z.heap z'.heap ∧ z'.os = z.os ∧ AllBare z'.gens) z := by
  have rv := vals_ints hi
  have lv := hi.length
  have core : ∀ H : Hp, Only H → SqL Kf H a (ns.map V.int) → HOk P w H z.heap → (∀ b, H b ≠ none → b = a) → (H a ≠ none → Kf.lookup a = none) →
      codeAny (model P w) callerA (.call (.ref fa) ⟨[.ref a], []⟩) (fun r z' => r = .ok (.ret (.bool true)) ∧ OldK z.heap z'.heap ∧ z'.os = z.os ∧ AllBare z'.gens) z := by
    intro H oH sH kH aH nH
    have only : ∀ {b : Addr} {u : HO}, H b = some u → b = a := fun {b u} q => aH b (by rw [q]; simp)
    have bas : ∀ {b : Addr} {o : Obj}, z.heap.get? b = some o → H b = none → (hidT z.heap H).get? b = some o := fun e n => hidT_get e n
    have nod : ∀ {b : Addr} {o : Obj} {es : Array DictEntry} {ep : Nat}, z.heap.get? b = some o → o.data = .dict es ep → H b = none := fun {b o es ep} e d => by
      cases q : H b with
      | none => rfl
      | some u =>
        cases only q
        rw [ha] at e; cases e
        exact nomatch (show Data.seq vs.toArray _ = Data.dict es ep from d)
    have nsb : ∀ {b : Addr} {m : Str → Option Value}, z.heap.Ns b m → (hidT z.heap H).Ns b m := fun {b m} ⟨o, es, ep, e, d, r⟩ => ⟨o, es, ep, bas e (nod e d), d, r⟩
    have inB : Kf.In (hidT z.heap H) := fun b o e => bas (inK b o e) (by
      cases q : H b with
      | none => rfl
      | some u =>
        cases only q
        rw [nH (by rw [q]; simp)] at e; cases e)
    have e0 : Env0 P w Kf gm (hidT z.heap H) callerA [] z H :=
      ⟨rfl, ⟨inB, nsb h1, ⟨gb, nsb h2, h3⟩, let ⟨mc, q1, q2⟩ := h4; ⟨mc, nsb q1, q2⟩⟩, fun b o e => of_hidT e, Nat.le_of_eq (hidT_size _ _), trivial, fun b hb => absurd (show b ∈ ([] : List Addr) from hb) (by simp), kH, .of_eq h5⟩
    refine codeAny_mono ((F _ inB (nsb h1)).rn callerA [] z H ⟨[.ref a], []⟩ [.ref a] [.ref a] _ _ hr rfl e0 (hb z (.ref a)) (.cons rfl .nil) (hp H oH sH)) fun r z' q => ?_
    rcases r with er | fl
    · exact (hC H er z' q).elim
    cases fl with
    | ret u =>
      obtain ⟨v, H', os, bare, un, hok', r', q⟩ := q
      have q' : v = .bl true := q
      subst q'
      obtain rfl : u = Value.bool true := r'
      refine ⟨rfl, OldK.of_keep fun b o e => ?_, os, bare⟩
      cases q : H b with
      | none => exact un.keep b o e q (by intro y; exact absurd (show b ∈ ([] : List Addr) from y) (by simp)) (by simp)
      | some u =>
        rcases oH b with y | ⟨ob, xs, y⟩
        · rw [q] at y; cases y
        · have y2 := un.frzs b ob _ y
          obtain ⟨e1, _⟩ := kH b _ y
          obtain ⟨e2, _⟩ := hok' b _ y2
          rw [e] at e1; cases e1
          exact e2
    | _ => exact q.elim
  cases hk : Kf.lookup a with
  | some o =>
    have e := inK a o hk
    rw [ha] at e
    cases e
    exact core (fun _ => none) (fun _ => .inl rfl) (.inr ⟨_, vs.toArray, _, hk, rfl, rfl, rfl, by rw [List.size_toArray, lv]; exact hl, by simpa using rv⟩) (fun b u y => nomatch (show (none : Option HO) = some u from y)) (fun b y => absurd rfl y) fun y => absurd rfl y
  | none =>
    refine core (fun b => if b = a then some (.frz { cls := .type "list", data := .seq vs.toArray } (.lst (ns.map V.int))) else none) (fun b => ?_) (.inl (.inr ⟨{ cls := .type "list", data := .seq vs.toArray }, if_pos rfl⟩)) (fun b u y => ?_) (fun b y => ?_) fun _ => hk
    · exact (Decidable.em (b = a)).elim (fun q => .inr ⟨_, _, if_pos q⟩) fun q => .inl (if_neg q)
    · by_cases q : b = a
      · cases (if_pos q).symm.trans y
        subst q
        exact ⟨ha, by rw [List.length_map]; exact hl, vs, _, rv, ha⟩
      · cases (if_neg q).symm.trans y
    · exact Decidable.byContradiction fun q => y (if_neg q)
theorem walk_ofG {l : PySem.W.OpenLaw} {n k : Nat} {q : Program} {loose : List Str} {XP : (Str → Option Value) → Heap → Prop} {YP : World → Heap → Prop} {d : DefRec} {Kf : Params → PySem.W.Frag} {Cf : World → CXT} {pr : World → Sp} {x : Str}
    (hn : l.most = some n) (hn2 : n ≤ sizeLine) (hdf : d.params.defaults = []) (hr : Room k callerA) (hY : ∀ (w : World) (h : Heap), YP w h → (Kf w.params).In h)
    (F : ∀ (w : World) (gm : Str → Option Value) (fa : Addr) (h : Heap), (Kf w.params).In h → h.Ns mainGlobals gm → gm d.name = some (.ref fa) →
      ∃ fd : FuncData, (∀ (z : Shared) (u : Value), BindsTo z fd ⟨[u], []⟩ [(x, u)]) ∧ ∀ bh : Heap, (Kf w.params).In bh → bh.Ns mainGlobals gm → FnG l.prog w (Kf w.params) gm bh (Cf w) k fa fd [x] (pr w))
    (hp : ∀ (w : World) (H : Hp) (a : Addr) (ns : List Int), ns.length ≤ n → (∀ z ∈ ns, Builtin.Int.intBits z ≤ 1048576) → Only H → SqL (Kf w.params) H a (ns.map V.int) → pr w [.ref a] H (fun v _ => v = .bl true) fun _ _ _ => False)
    (hC : ∀ (w : World) (H : Hp) (z : Shared) (e : Value) (z' : Shared), Cf w [] H z (fun _ _ _ => False) e z' → False) :
    PySem.W.WalkO q loose XP YP l.row.toRowW d [] (fun f vs => PySem.call f vs) := by
  refine Att.attach_callB hn hdf fun w z0 z1 gm gb fa o pm cd doc a vs ns G Y ho hd hcd hmg hobj hints hlen hbits hg => ?_
  have inK := hY w _ Y
  obtain ⟨fd, hb, hF⟩ := F w gm fa _ inK G.T.g hmg
  exact law_callG inK G.T.g G.T.b G.T.builtins G.T.nolimit hg hobj hints (Nat.le_trans hlen hn2) hr hF hb (fun H oH sH => hp w H a ns hlen hbits oH sH) fun H e z' => hC w H z1 e z'
end MP

set_option maxHeartbeats 1000000
/-! What is walked; targets; the checker that a text is as the own syntax says. -/
namespace MP
open PySem PySem.Spec PyProof.Rows L2

/-! ### walks -/
def JR (K : PySem.W.Frag) (F0 : Hp) (m0 : List Addr) (J : L2.It) (w : Walk) : Prop := ∀ G F m h H, Ext F0 m0 F m → Rel K G F m h H →
  (∀ (i : Nat) t d, w.its[i]? = some t → itm h t = some d → J.go i H ∧ ∀ x H', J.yld i H x H' → ∃ F', Ext F m F' m ∧ Rel K G F' m h H' ∧ Rp K F' m d x) ∧ (finOk h w.fin = true → J.stop w.its.length H)
def tI (K : PySem.W.Frag) (XT : List Value) (C : CT) (W : WX) (it : It) : TI := fun σ H R => ∃ G F m h ρ, Rel K G F m h H ∧ Er K F m ρ σ ∧ Pst K XT (WAt W σ) G F m (evi C it ρ h) (fun F' m' _ H' w => ∀ J, JR K F' m' J w → R J H')
theorem _root_.L2.PI.imp {X : Cx} {tg it : Expr} {t t' : TI} (p : PI X tg it t) (k : ∀ σ H Q, t' σ H Q → t σ H Q) : PI X tg it t' := ⟨fun pins s σ H Q I h => p.run pins s σ H Q I (k σ H Q h)⟩
section
variable {X : Cx} {tg : Expr}
/-- a list or a tuple, as it comes -/
def iSeq (K : PySem.W.Frag) (tl : TE) : TI := fun σ H R => tl σ H fun x H1 => ∃ a, x = .ref a ∧ ((∃ xs, SqL K H1 a xs ∧ R (Itl K a) H1) ∨ (∃ xs, SqT K H1 a xs ∧ R (Itt K a) H1))
theorem pi_seq {l : Expr} {tl : TE} (hl : PE X l tl) : PI X tg l (iSeq X.K tl) := by
  refine ⟨fun pins s σ H R I h => ?_⟩
  refine thn (hl.run pins s σ H _ I h) fun v s1 ⟨x, H1, I1, r1, q1⟩ => ?_
  obtain ⟨a, e, q1⟩ := q1
  subst e
  cases r1
  rcases q1 with ⟨xs, hq, q⟩ | ⟨xs, hq, q⟩
  · obtain ⟨its, rv, p, hz⟩ := I1.list hq
    refine wpAny_pyIter_list p.isList ?_
    refine ⟨s1.heap.objs.size, [s1.heap.objs.size], _, _, H1, rfl, I1.kept (t' := s1.toks) fun b o e => Heap.get?_push_of_some _ e, turn_list a _, ⟨_, Heap.get?_push_size _ rfl, rfl, rfl⟩, fun b hb => ?_, q⟩
    have e : b = s1.heap.objs.size := by simpa using hb
    subst e
    exact I1.fpOk (Nat.le_refl _) (I1.hok.fresh (Nat.le_refl _))
  · obtain ⟨its, rv, p, hz⟩ := I1.tuple hq
    refine wpAny_pyIter_tuple (show s1.heap.IsTuple a its.toArray from p) ?_
    refine ⟨s1.heap.objs.size, [s1.heap.objs.size], _, _, H1, rfl, I1.kept (t' := s1.toks) fun b o e => Heap.get?_push_of_some _ e, turn_tuple a _, ⟨_, Heap.get?_push_size _ rfl, rfl, rfl⟩, fun b hb => ?_, q⟩
    have e : b = s1.heap.objs.size := by simpa using hb
    subst e
    exact I1.fpOk (Nat.le_refl _) (I1.hok.fresh (Nat.le_refl _))
end
section
variable {K : PySem.W.Frag} {G F : Hp} {m : List Addr} {h : Hea} {H : Hp}
theorem walk_seq {d : D} {v : V} {w : Walk} (rl : Rel K G F m h H) (r : Rp K F m d v) (e : walkV h d = some w) :
    ∃ a, v = .ref a ∧ ((∃ xs, SqL K H a xs ∧ JR K F m (Itl K a) w) ∨ (∃ xs, SqT K H a xs ∧ JR K F m (Itt K a) w)) := by
  have stat : ∀ {ds : List D} {vs : List V}, Rps K F m ds vs → ∀ {F' : Hp} {m' : List Addr} {h' : Hea}, Ext F m F' m' → ∀ (i : Nat) t d, (ds.map Itm.v)[i]? = some t → itm h' t = some d → ∃ x, vs[i]? = some x ∧ Rp K F' m' d x := fun {ds vs} r {F' m' h'} x i t d e1 e2 => by
    rw [List.getElem?_map] at e1
    obtain ⟨d', e3, rfl⟩ := Option.map_eq_some_iff.mp e1
    cases e2
    obtain ⟨x', e4, r4⟩ := r.get e3
    exact ⟨x', e4, Rp.mono x _ _ r4⟩
  cases d with
  | tup ds =>
    cases e
    obtain ⟨a, vs, rfl, s, q⟩ := rp_tup r
    refine ⟨a, rfl, .inr ⟨vs, SqT.mono rl.sub s, fun G' F' m' h' H' x rl' => ⟨fun i t d e1 e2 => ?_, fun _ => ?_⟩⟩⟩
    · obtain ⟨y, e3, r3⟩ := stat q x i t d e1 e2
      have s' : SqT K H' a vs := SqT.mono rl'.sub (SqT.mono x.sub s)
      exact ⟨⟨vs, y, s', e3⟩, fun z H'' ⟨e4, e5⟩ => by
        subst e4
        have : z = y := Option.some.inj ((e5 vs s').symm.trans e3)
        subst this
        exact ⟨F', .refl, rl', r3⟩⟩
    · refine ⟨vs, SqT.mono rl'.sub (SqT.mono x.sub s), ?_⟩
      rw [List.length_map, q.len]; exact Nat.le_refl _
  | lst ds =>
    cases e
    obtain ⟨a, vs, rfl, s, q⟩ := rp_lst r
    refine ⟨a, rfl, .inl ⟨vs, .inl (.inl (rl.sub _ _ s)), fun G' F' m' h' H' x rl' => ⟨fun i t d e1 e2 => ?_, fun _ => ?_⟩⟩⟩
    · obtain ⟨y, e3, r3⟩ := stat q x i t d e1 e2
      have s' : SqL K H' a vs := .inl (.inl (rl'.sub _ _ (x.sub _ _ s)))
      exact ⟨⟨vs, y, s', e3⟩, fun z H'' ⟨e4, e5⟩ => by
        subst e4
        have : z = y := Option.some.inj ((e5 vs s').symm.trans e3)
        subst this
        exact ⟨F', .refl, rl', r3⟩⟩
    · refine ⟨vs, .inl (.inl (rl'.sub _ _ (x.sub _ _ s))), ?_⟩
      rw [List.length_map, q.len]; exact Nat.le_refl _
  | scr ns =>
    cases e
    obtain ⟨a, rfl, s⟩ := rp_scr r
    have q : Rps K F m (ns.map D.int) (ns.map V.int) := by
      clear s r
      induction ns with
      | nil => exact .mk0
      | cons n ns ih => exact .mk mk_int ih
    refine ⟨a, rfl, .inl ⟨_, SqL.mono rl.sub s, fun G' F' m' h' H' x rl' => ⟨fun i t d e1 e2 => ?_, fun _ => ?_⟩⟩⟩
    · have e1 : ((ns.map D.int).map Itm.v)[i]? = some t := by
        rw [List.map_map]; exact e1
      obtain ⟨y, e3, r3⟩ := stat q x i t d e1 e2
      have s' : SqL K H' a (ns.map .int) := SqL.mono rl'.sub (SqL.mono x.sub s)
      exact ⟨⟨_, y, s', e3⟩, fun z H'' ⟨e4, e5⟩ => by
        subst e4
        have : z = y := Option.some.inj ((e5 _ s').symm.trans e3)
        subst this
        exact ⟨F', .refl, rl', r3⟩⟩
    · refine ⟨_, SqL.mono rl'.sub (SqL.mono x.sub s), ?_⟩
      rw [List.length_map, List.length_map]; exact Nat.le_refl _
  | ref a =>
    obtain ⟨p, rfl, g⟩ := rp_ref r
    unfold walkV at e
    dsimp only at e
    cases hc : MP.get h a with
    | none => rw [hc] at e; cases e
    | some c =>
      rw [hc] at e
      cases c with
      | lst ds =>
        cases e
        obtain ⟨⟨_, vs, e1, q⟩, _⟩ := rl.cell a _ p hc g
        have cell : ∀ {G F' : Hp} {m' : List Addr} {h' : Hea} {H' : Hp} {es : List D}, Ext F m F' m' → Rel K G F' m' h' H' → MP.get h' a = some (.lst es) → ∃ ws, H' p = some (.lst ws) ∧ Rps K F' m' es ws := fun x rl' hc' => by
          obtain ⟨⟨_, ws, e1, q⟩, _⟩ := rl'.cell a _ p hc' (x.get g)
          exact ⟨ws, e1, q⟩
        refine ⟨p, rfl, .inl ⟨vs, .inl (.inl e1), fun G' F' m' h' H' x rl' => ⟨fun i t d e1 e2 => ?_, fun hf => ?_⟩⟩⟩
        · rw [List.getElem?_map] at e1
          obtain ⟨j, e3, rfl⟩ := Option.map_eq_some_iff.mp e1
          have ej : j = i := by
            obtain ⟨hj, e4⟩ := List.getElem?_eq_some_iff.mp e3
            rw [List.getElem_range] at e4; exact e4.symm
          subst ej
          unfold itm at e2
          dsimp only at e2
          cases hc' : MP.get h' a with
          | none => rw [hc'] at e2; cases e2
          | some c' =>
            rw [hc'] at e2
            cases c' with
            | lst es =>
              obtain ⟨ws, s', q'⟩ := cell x rl' hc'
              obtain ⟨y, e5, r5⟩ := q'.get (show es[j]? = some d from e2)
              have s'' : SqL K H' p ws := .inl (.inl s')
              exact ⟨⟨ws, y, s'', e5⟩, fun z H'' ⟨e6, e7⟩ => by
                subst e6
                have : z = y := Option.some.inj ((e7 ws s'').symm.trans e5)
                subst this
                exact ⟨F', .refl, rl', r5⟩⟩
            | _ => cases e2
        · unfold finOk at hf
          dsimp only at hf
          cases hc' : MP.get h' a with
          | none => rw [hc'] at hf; cases hf
          | some c' =>
            rw [hc'] at hf
            cases c' with
            | lst es =>
              obtain ⟨ws, s', q'⟩ := cell x rl' hc'
              refine ⟨ws, .inl (.inl s'), ?_⟩
              have : es.length = ds.length := by simpa using hf
              rw [List.length_map, List.length_range, ← this, q'.len]; exact Nat.le_refl _
            | _ => cases hf
      | _ => cases e
  | _ => cases e
theorem walk_rng {i j : Int} {w : Walk} (e : walkR (.int i) (.int j) = some w) : R62 i = true ∧ R62 j = true ∧ JR K F m (Itr i (j - i).toNat) w := by
  unfold walkR at e
  dsimp only at e
  obtain ⟨c, e⟩ := some_if (c := (R62 i && R62 j) = true) e
  subst e
  rw [Bool.and_eq_true] at c
  refine ⟨c.1, c.2, fun G' F' m' h' H' x rl' => ⟨fun k t d e1 e2 => ?_, fun _ => ?_⟩⟩
  · unfold rngL at e1
    dsimp only at e1
    rw [List.getElem?_map] at e1
    obtain ⟨k', e3, rfl⟩ := Option.map_eq_some_iff.mp e1
    obtain ⟨hk, e4⟩ := List.getElem?_eq_some_iff.mp e3
    rw [List.getElem_range] at e4
    subst e4
    cases e2
    refine ⟨by rw [List.length_range] at hk; exact hk, fun z H'' ⟨e6, e7⟩ => ?_⟩
    subst e6 e7
    exact ⟨F', .refl, rl', mk_int⟩
  · unfold rngL
    show (j - i).toNat ≤ _
    rw [List.length_map, List.length_range]; exact Nat.le_refl _
end
section
variable {K : PySem.W.Frag} {F : Hp} {m : List Addr}
theorem zip_get {xs ys : List D} {i : Nat} {t : Itm} (e : ((xs.zip ys).map pairD)[i]? = some t) : ∃ x y, xs[i]? = some x ∧ ys[i]? = some y ∧ t = .v (.tup [x, y]) := by
  rw [List.getElem?_map] at e
  obtain ⟨p, e1, rfl⟩ := Option.map_eq_some_iff.mp e
  rw [List.getElem?_zip_eq_some] at e1
  exact ⟨p.1, p.2, e1.1, e1.2, rfl⟩
theorem fixQ_ok {d : D} {v : V} {t : Bool} {ds : List D} (r : Rp K F m d v) (e : fixQ d = some (t, ds)) : ∃ a vs, v = .ref a ∧ SqM t K F a vs ∧ Rps K F m ds vs := by
  cases d with
  | tup es => cases e; obtain ⟨a, vs, rfl, s, q⟩ := rp_tup r; exact ⟨a, vs, rfl, s, q⟩
  | lst es => cases e; obtain ⟨a, vs, rfl, s, q⟩ := rp_lst r; exact ⟨a, vs, rfl, .inl (.inl s), q⟩
  | scr ns =>
    cases e
    obtain ⟨a, rfl, s⟩ := rp_scr r
    refine ⟨a, ns.map .int, rfl, s, ?_⟩
    clear s r
    induction ns with
    | nil => exact .mk0
    | cons n ns ih => exact .mk mk_int ih
  | _ => cases e
theorem sqm_mono {t : Bool} {F' : Hp} {a : Addr} {xs : List V} (s : ∀ p o, F p = some o → F' p = some o) (h : SqM t K F a xs) : SqM t K F' a xs := by
  cases t
  · exact SqL.mono s h
  · exact SqT.mono s h
theorem walk_zip {d d' : D} {v v' : V} {w : Walk} (r : Rp K F m d v) (r' : Rp K F m d' v') (e : walkZ d d' = some w) : ∃ a b xs ys t u, v = .ref a ∧ v' = .ref b ∧ SqM t K F a xs ∧ SqM u K F b ys ∧ JR K F m (ItM t u K a b) w := by
  unfold walkZ at e
  obtain ⟨⟨t, xs⟩, e1, e⟩ := Option.bind_eq_some_iff.mp e
  obtain ⟨⟨u, ys⟩, e2, rfl⟩ := Option.map_eq_some_iff.mp e
  obtain ⟨a, vs, rfl, s, q⟩ := fixQ_ok r e1
  obtain ⟨b, ws, rfl, s', q'⟩ := fixQ_ok r' e2
  refine ⟨a, b, vs, ws, t, u, rfl, rfl, s, s', fun G' F' m' h' H' x rl => ⟨fun i t' d e1 e2 => ?_, fun _ => ?_⟩⟩
  · obtain ⟨dx, dy, e3, e4, rfl⟩ := zip_get e1
    cases e2
    obtain ⟨vx, e5, rx⟩ := q.get e3
    obtain ⟨vy, e6, ry⟩ := q'.get e4
    have s1 := sqm_mono rl.sub (sqm_mono x.sub s)
    have s2 := sqm_mono rl.sub (sqm_mono x.sub s')
    refine ⟨⟨vs, ws, vx, vy, s1, s2, e5, e6⟩, fun z H'' ⟨T, x', y', e7, e8, e9, e10, e11⟩ => ?_⟩
    have ex : x' = vx := Option.some.inj ((e10 vs s1).symm.trans e5)
    have ey : y' = vy := Option.some.inj ((e11 ws s2).symm.trans e6)
    subst ex ey e7 e9
    obtain ⟨rl2, x2⟩ := rl.newF (o := .tup [x', y']) e8
    exact ⟨_, x2, rl2, mk_tup (.inl (.inl upd_same)) (.mk (Rp.mono x2 _ _ (Rp.mono x _ _ rx)) (.mk (Rp.mono x2 _ _ (Rp.mono x _ _ ry)) .mk0))⟩
  · refine ⟨vs, ws, sqm_mono rl.sub (sqm_mono x.sub s), sqm_mono rl.sub (sqm_mono x.sub s'), ?_⟩
    have l1 := q.len
    have l2 := q'.len
    rw [List.length_map, List.length_zip]
    show min xs.length ys.length ≤ _ ∧ min xs.length ys.length ≤ _ ∧ (min xs.length ys.length = _ ∨ min xs.length ys.length = _)
    omega
theorem num_get {xs : List D} {i : Nat} {t : Itm} (e : (numD xs)[i]? = some t) : ∃ x, xs[i]? = some x ∧ t = .v (.tup [.int (i : Nat), x]) := by
  unfold numD at e
  obtain ⟨x, y, e1, e2, rfl⟩ := zip_get e
  rw [List.getElem?_map] at e1
  obtain ⟨k, e3, rfl⟩ := Option.map_eq_some_iff.mp e1
  rw [List.getElem?_eq_some_iff] at e3
  obtain ⟨e4, e5⟩ := e3
  rw [List.getElem_range] at e5
  subst e5
  exact ⟨y, e2, rfl⟩
theorem numD_len {xs : List D} : (numD xs).length = xs.length := by
  unfold numD
  rw [List.length_map, List.length_zip, List.length_map, List.length_range, Nat.min_self]
theorem walk_num {d : D} {v : V} {w : Walk} (r : Rp K F m d v) (e : walkN d = some w) : ∃ a xs, v = .ref a ∧
    ((∃ J : L2.It, J = Ite K a ∧ SqL K F a xs ∧ JR K F m J w) ∨ (∃ J : L2.It, J = EnT K a ∧ SqT K F a xs ∧ JR K F m J w)) := by
  unfold walkN at e
  split at e
  · rename_i xs
    cases e
    obtain ⟨a, vs, rfl, s, q⟩ := rp_lst r
    have s : SqL K F a vs := .inl (.inl s)
    refine ⟨a, vs, rfl, .inl ⟨_, rfl, s, fun G' F' m' h' H' x rl => ⟨fun i t d e1 e2 => ?_, fun _ => ?_⟩⟩⟩
    · obtain ⟨dx, e3, rfl⟩ := num_get e1
      cases e2
      obtain ⟨vx, e5, rx⟩ := q.get e3
      have s1 := SqL.mono rl.sub (SqL.mono x.sub s)
      refine ⟨⟨vs, vx, s1, e5⟩, fun z H'' ⟨T, x', e7, e8, e9, e10⟩ => ?_⟩
      have ex : x' = vx := Option.some.inj ((e10 vs s1).symm.trans e5)
      subst ex e7 e9
      obtain ⟨rl2, x2⟩ := rl.newF (o := .tup [.int (i : Nat), x']) e8
      exact ⟨_, x2, rl2, mk_tup (.inl (.inl upd_same)) (.mk mk_int (.mk (Rp.mono x2 _ _ (Rp.mono x _ _ rx)) .mk0))⟩
    · refine ⟨vs, SqL.mono rl.sub (SqL.mono x.sub s), ?_⟩
      show vs.length ≤ (numD xs).length
      rw [numD_len, ← q.len]; exact Nat.le_refl _
  · rename_i xs
    cases e
    obtain ⟨a, vs, rfl, s, q⟩ := rp_tup r
    refine ⟨a, vs, rfl, .inr ⟨_, rfl, s, fun G' F' m' h' H' x rl => ⟨fun i t d e1 e2 => ?_, fun _ => ?_⟩⟩⟩
    · obtain ⟨dx, e3, rfl⟩ := num_get e1
      cases e2
      obtain ⟨vx, e5, rx⟩ := q.get e3
      have s1 := SqT.mono rl.sub (SqT.mono x.sub s)
      refine ⟨⟨vs, vx, s1, e5⟩, fun z H'' ⟨T, x', e7, e8, e9, e10⟩ => ?_⟩
      have ex : x' = vx := Option.some.inj ((e10 vs s1).symm.trans e5)
      subst ex e7 e9
      obtain ⟨rl2, x2⟩ := rl.newF (o := .tup [.int (i : Nat), x']) e8
      exact ⟨_, x2, rl2, mk_tup (.inl (.inl upd_same)) (.mk mk_int (.mk (Rp.mono x2 _ _ (Rp.mono x _ _ rx)) .mk0))⟩
    · refine ⟨vs, SqT.mono rl.sub (SqT.mono x.sub s), ?_⟩
      show vs.length = (numD xs).length
      rw [numD_len, ← q.len]
  · cases e
end
theorem R62_ok {i : Int} (h : R62 i = true) : -(2 ^ 62) ≤ i ∧ i < 2 ^ 62 := by
  unfold R62 at h
  simp only [Bool.and_eq_true, decide_eq_true_eq] at h
  exact h

/-! ### targets -/
def gAll : List Nat → TGs
  | [] => gNil
  | i :: is => gCons (gName i) (gAll is)
def gT (K : PySem.W.Frag) : Tg → TG
  | .one i => gName i
  | .many is => gTup K is.length (gAll is)
section
variable {K : PySem.W.Frag} {G F : Hp} {m : List Addr} {h : Hea} {H : Hp} {ρ ρ' : Env}
theorem setAll_ok : ∀ {is : List Nat} {ds : List D} {vs : List V} {ρ ρ' : Env} {σ : Stt} {Q : Stt → Hp → Prop}, Er K F m ρ σ → Rps K F m ds vs → setAll is ds ρ = some ρ' → (∀ σ', Er K F m ρ' σ' → Q σ' H) → gAll is vs σ H Q
  | [], [], vs, ρ, ρ', σ, Q, er, r, e, q => by cases e; exact ⟨r.nil, q σ er⟩
  | [], _ :: _, _, _, _, _, _, _, _, e, _ => by cases e
  | _ :: _, [], _, _, _, _, _, _, _, e, _ => by cases e
  | i :: is, d :: ds, vs, ρ, ρ', σ, Q, er, r, e, q => by
    obtain ⟨v, w, rfl, r1, r2⟩ := r.cons
    exact ⟨v, w, rfl, setAll_ok (er.set r1) r2 e q⟩
theorem setAll_len : ∀ {is : List Nat} {ds : List D} {ρ ρ' : Env}, setAll is ds ρ = some ρ' → ds.length = is.length
  | [], [], _, _, _ => rfl
  | [], _ :: _, _, _, e => by cases e
  | _ :: _, [], _, _, e => by cases e
  | i :: is, d :: ds, ρ, ρ', e => by rw [List.length_cons, List.length_cons, setAll_len (ds := ds) (is := is) e]
theorem bindT_ok {tg : Tg} {d : D} {x : V} {σ : Stt} {Q : Stt → Hp → Prop} (rl : Rel K G F m h H) (er : Er K F m ρ σ) (r : Rp K F m d x) (e : bindT h tg d ρ = some ρ') (q : ∀ σ', Er K F m ρ' σ' → Q σ' H) : gT K tg x σ H Q := by
  cases tg with
  | one i => cases e; exact q _ (er.set r)
  | many is =>
    cases d with
    | tup ds =>
      obtain ⟨a, vs, rfl, s, r2⟩ := rp_tup r
      exact ⟨a, vs, rfl, SqT.mono rl.sub s, by rw [← r2.len]; exact setAll_len e, setAll_ok er r2 e q⟩
    | _ => cases e
end

/-! ### the checker -/
structure Tab where
  fns : List (Str × Nat)
  blts : List Str
  ps : List (List Str)
  cons : List (Str × Int)
def visB (sc : Scope) (x : Str) : Bool := match sc.names.lookup x with
  | some .local => true | some .cell => true | some .free => true | _ => false
def locB (sc : Scope) (x : Str) : Bool := match sc.names.lookup x with
  | some .local => true | some .cell => true | _ => false
def gloB (sc : Scope) (x : Str) : Bool := match sc.names.lookup x with
  | some .globalImplicit => true | _ => false
def nmOk (x : Str) : Bool := decide ((x == ("__debug__" : Str)) = false) && decide ((x == ("__classdict__" : Str)) = false) && decide (x ≠ "__name__")
/-- names that the code may store: of a def, of a comprehension's block (its own) -/
def tgB (bs : Option Scope) (sc : Scope) (x : Str) : Bool := match bs with
  | none => locB sc x
  | some s => locB s x
def bltNm : Blt → Str
  | .len => "len" | .abs => "abs" | .max => "max" | .min => "min" | .int => "int" | .str => "str" | .tuple => "tuple" | .list => "list" | .sum => "sum" | .any => "any" | .all => "all" | .repr => "repr" | .sorted => "sorted" | .isi _ => "isinstance"
def mthNm : Mth → Str
  | .append => "append" | .clear => "clear" | .pop => "pop" | .extend => "extend" | .join => "join" | .insert => "insert" | .reverse => "reverse" | .endswith => "endswith"
def opB : BOp → Operator → Bool
  | .add, .Add => true | .sub, .Sub => true | .mul, .Mult => true | .fdiv, .FloorDiv => true | .mod, .Mod => true | .pow, .Pow => true | .shl, .LShift => true | .shr, .RShift => true | .band, .BitAnd => true | .bor, .BitOr => true | .bxor, .BitXor => true | _, _ => false
def copB : COp → CmpOp → Bool
  | .eq, .Eq => true | .ne, .NotEq => true | .lt, .Lt => true | .le, .LtE => true | .gt, .Gt => true | .ge, .GtE => true | .isN, .Is => true | .notN, .IsNot => true | .isB, .Is => true | .notB, .IsNot => true | .inn, .In => true | .notin, .NotIn => true | _, _ => false
def ckC : D → Const → Bool
  | .non, .none => true
  | .bl b, .bool c => b == c
  | .int i, .int j => i == j
  | .str x, .str y => decide (y = strOfL x)
  | _, _ => false
def tyNm (t : Ty) : Str := tyN t
def ckTy (T : Tab) (sc : Scope) (ts : List Ty) : Expr → Bool
  | .Name x _ => (match ts with | [t] => decide (x = tyNm t) | _ => false) && gloB sc x && T.blts.contains x && nmOk x
  | .Tuple es _ _ => decide (ts.length ≤ 100) && go ts es
  | _ => false
where go : List Ty → List Expr → Bool
  | [], [] => true
  | t :: ts, .Name x _ :: es => decide (x = tyNm t) && gloB sc x && T.blts.contains x && nmOk x && go ts es
  | _, _ => false
def noSlice : Expr → Bool
  | .Slice _ _ _ _ => false
  | _ => true
def isIsi : Blt → Bool
  | .isi _ => true
  | _ => false
def isZ : It → Bool
  | .zip _ _ => true
  | .enu _ => true
  | _ => false
def isMany : Tg → Bool
  | .many _ => true
  | _ => false
def noSup : Expr → Bool
  | .Call (.Name _ _) [] [] _ => false
  | _ => true
def inter : List (Option Expr) → List Expr → Option (List Expr)
  | [], [] => some []
  | some k :: ks, v :: vs => (inter ks vs).map fun r => k :: v :: r
  | _, _ => none
def ckTgs (N : List Str) (bs : Option Scope) (sc : Scope) : List Nat → List Expr → Bool
  | [], [] => true
  | i :: is, .Name x _ :: es => decide (N[i]? = some x) && tgB bs sc x && ckTgs N bs sc is es
  | _, _ => false
def ckTg (N : List Str) (bs : Option Scope) (sc : Scope) : Tg → Expr → Bool
  | .one i, .Name x _ => decide (N[i]? = some x) && tgB bs sc x
  | .many is, .Tuple es _ _ => ckTgs N bs sc is es
  | _, _ => false
def ownOf (N : List Str) (own : List Nat) : List (Str × Nat) := own.filterMap fun i => N[i]?.map fun x => (x, i)
def tgIn (own : List Nat) : Tg → Bool
  | .one i => own.contains i
  | .many is => is.all own.contains
section
variable (T : Tab) (N : List Str)
mutual
def ckE : Ex → Option Scope → Scope → Expr → Bool
  | .cst d, _, _, .Constant c _ _ => ckC d c
  | .nam i, _, sc, .Name x _ => decide (N[i]? = some x) && visB sc x && nmOk x
  | .glb i, _, sc, .Name x _ => gloB sc x && nmOk x && decide (T.cons.lookup x = some i)
  | .trg a, bs, sc, .Call (.Name x _) [.Call (.Name y _) [e] [] _] [] _ => gloB sc x && decide (x = "tuple") && T.blts.contains x && (gloB sc y && decide (y = "range") && T.blts.contains y) && ckE a bs sc e
  | .bin _ o a b, bs, sc, .BinOp l op r _ => opB o op && ckE a bs sc l && ckE b bs sc r
  | .neg a, bs, sc, .UnaryOp .USub x _ => ckE a bs sc x
  | .cmp o a b, bs, sc, .Compare l [op] [r] _ => copB o op && ckE a bs sc l && ckE b bs sc r && !behindInMarks op r
  | .chn o o' a b c, bs, sc, .Compare l [op, op'] [r, r'] _ => copB o op && copB o' op' && ckE a bs sc l && ckE b bs sc r && ckE c bs sc r' && !behindInMarks op' r'
  | .land a b, bs, sc, .BoolOp .And (v :: v2 :: vs) p => ckE a bs sc v && (if vs.isEmpty then ckE b bs sc v2 else ckE b bs sc (.BoolOp .And (v2 :: vs) p))
  | .lor a b, bs, sc, .BoolOp .Or (v :: v2 :: vs) p => ckE a bs sc v && (if vs.isEmpty then ckE b bs sc v2 else ckE b bs sc (.BoolOp .Or (v2 :: vs) p))
  | .lnot a, bs, sc, .UnaryOp .Not x _ => ckE a bs sc x
  | .ite c a b, bs, sc, .IfExp c' a' b' _ => ckE c bs sc c' && ckE a bs sc a' && ckE b bs sc b'
  | .tup es, bs, sc, .Tuple l _ _ => ckEs es bs sc l
  | .lst _ es, bs, sc, .List l _ => ckEs es bs sc l
  | .dic _ es, bs, sc, .Dict ks vs _ => decide (vs.length ≤ 15) && (match inter ks vs with | some l => ckEs es bs sc l | none => false)
  | .idx a b, bs, sc, .Subscript v s _ => noSlice s && ckE a bs sc v && ckE b bs sc s
  | .slc _ a lo hi, bs, sc, .Subscript v (.Slice l u none _) _ => ckE a bs sc v && ckO lo bs sc l && ckO hi bs sc u
  | .cal _ g es, bs, sc, .Call (.Name x _) args [] _ => gloB sc x && nmOk x && decide (T.fns.lookup x = some g) && !args.isEmpty && ckEs es bs sc args
  | .blt _ (.isi ts) es, bs, sc, .Call (.Name x _) [a, t] [] _ => gloB sc x && nmOk x && decide (x = "isinstance") && T.blts.contains x && ckEs es bs sc [a] && ckTy T sc ts t
  | .blt _ b es, bs, sc, .Call (.Name x _) args [] _ => !isIsi b && gloB sc x && nmOk x && decide (x = bltNm b) && T.blts.contains x && !args.isEmpty && ckEs es bs sc args
  | .mth _ m r es, bs, sc, .Call (.Attribute o x ap) args [] cp => decide (x = mthNm m) && (ap.endLine == cp.line) && noSup o && decide (args.length < 20) && ckE r bs sc o && ckEs es bs sc args
  | .lc _ el tg it c own, bs, sc, .ListComp elt [⟨tge, ite, ifs, 0⟩] scope _ => blkC N sc scope (ownOf N own) && decide ((ownOf N own).map (·.2) = own) && tgIn own tg && (!isZ it || isMany tg) && ckI it bs sc ite && ckTg N (some scope) (relS scope sc) tg tge &&
      ckE el (some scope) (relS scope sc) elt && (match c, ifs with | .none, [] => true | .some e, [i] => ckE e (some scope) (relS scope sc) i | _, _ => false)
  | _, _, _, _ => false
def ckEs : Exs → Option Scope → Scope → List Expr → Bool
  | .nil, _, _, [] => true
  | .cons a es, bs, sc, e :: l => ckE a bs sc e && ckEs es bs sc l
  | _, _, _, _ => false
def ckO : OEx → Option Scope → Scope → Option Expr → Bool
  | .none, _, _, none => true
  | .some a, bs, sc, some e => ckE a bs sc e
  | _, _, _, _ => false
def ckI : It → Option Scope → Scope → Expr → Bool
  | .rng a, bs, sc, .Call (.Name x _) [e] [] _ => gloB sc x && decide (x = "range") && T.blts.contains x && ckE a bs sc e
  | .rng2 a b, bs, sc, .Call (.Name x _) [e, e'] [] _ => gloB sc x && decide (x = "range") && T.blts.contains x && ckE a bs sc e && ckE b bs sc e'
  | .zip a b, bs, sc, .Call (.Name x _) [e, e'] [] _ => gloB sc x && decide (x = "zip") && T.blts.contains x && ckE a bs sc e && ckE b bs sc e'
  | .enu a, bs, sc, .Call (.Name x _) [e] [] _ => gloB sc x && decide (x = "enumerate") && T.blts.contains x && ckE a bs sc e
  | .val a, bs, sc, e => ckE a bs sc e
  | _, _, _, _ => false
end
def noTup : Expr → Bool
  | .Tuple _ _ _ => false
  | _ => true
def isLc : Expr → Bool
  | .ListComp _ _ _ _ => true
  | .SetComp _ _ _ _ => true
  | .DictComp _ _ _ _ _ => true
  | _ => false
def swB (sc : Scope) (x : Str) (p : Pos) : Expr → Bool
  | .ListComp _ _ scope q => (match sc.names.lookup x with | some .local => true | _ => false) && p.line == q.line && !(scope.names.any fun (n, k) => n == x && (k == .local || k == .cell))
  | _ => false
def funB (sc : Scope) : Bool := match sc.kind with | .function => true | _ => false
def lB (sc : Scope) (x : Str) : Bool := match sc.names.lookup x with | some .local => true | _ => false
/-- a, b = x, y and a, b, c = x, y, z that are stored one by one -/
def parB (sc : Scope) : List Expr → List Expr → Bool
  | [.Name x px, .Name y py], [a, b] => funB sc && lB sc x && lB sc y && (py.line == px.line) && !(x == y) && !([a, b].all (foldedForSure 8)) && !([a, b].all (constantsAlone 8))
  | [.Name x px, .Name y py, .Name z pz], [a, b, c] => funB sc && lB sc x && lB sc y && lB sc z && (py.line == px.line) && (pz.line == px.line) && !(x == y) && !(x == z) && !(y == z) && !([a, b, c].all (foldedForSure 8)) && !([a, b, c].all (constantsAlone 8))
  | _, _ => false
/-- some name of them is no plain local: then they are put by way of a tuple -/
def celB (sc : Scope) (es : List Expr) : Bool := es.any fun | .Name x _ => !lB sc x | _ => false
def tupB (sc : Scope) (es : List Expr) (is : List Nat) : Expr → Bool
  | .Tuple vs _ _ => celB sc es || (parB sc es vs && decide (is.Nodup))
  | _ => true
mutual
def ckS (sc : Scope) : Sm → Stmt → Bool
  | .exp e, .Expr x _ => !isLc x && ckE T N e none sc x
  | .set i e, .Assign [.Name x p] v _ => decide (N[i]? = some x) && locB sc x && funB sc && ckE T N e none sc v
  | .unp is e, .Assign [.Tuple es _ _] v _ => tupB sc es is v && ckTgs N none sc is es && ckE T N e none sc v
  | .sti o i e, .Assign [.Subscript oe ie _] v _ => noSlice ie && ckE T N o none sc oe && ckE T N i none sc ie && ckE T N e none sc v
  | .ifs c a b, .If ce ab bb _ => ckE T N c none sc ce && ckB sc a ab && ckB sc b bb
  | .whl c b, .While ce bb [] _ => ckE T N c none sc ce && ckB sc b bb
  | .for_ tg it b, .For tge ite bb [] _ => (!isZ it || isMany tg) && ckI T N it none sc ite && ckTg N none sc tg tge && ckB sc b bb
  | .ret e, .Return (some x) _ => ckE T N e none sc x
  | .rtn, .Return none _ => true
  | .brk, .Break _ => true
  | .cnt, .Continue _ => true
  | .stk, _ => true
  | _, _ => false
def ckB (sc : Scope) : List Sm → List Stmt → Bool
  | [], [] => true
  | s :: ss, t :: ts => ckS sc s t && ckB sc ss ts
  | _, _ => false
end
end
end MP

set_option maxHeartbeats 1000000
/-! Expressions: what each node of the own syntax brings about. -/
namespace MP
open PySem PySem.Spec PyProof.Rows L2

/-- a def's promise: what the own text of it tells -/
def spI (K : PySem.W.Frag) (XT : List Value) (C : CT) (g n : Nat) : Sp := fun vs H Q E => vs.length = n ∧ ∃ G F m h ds, Rel K G F m h H ∧ Rps K F m ds vs ∧ Pst K XT E G F m (C g ds h) (ZV K Q)
structure CallOk (T : Tab) (XT : List Value) (C : CT) (X : Cx) (x : Str) (g : Nat) : Prop where
  ok : ∃ k f fd ps, FnG X.prog X.w X.K X.mg X.base (L2.CX X.prog X.w) k f fd ps (spI X.K XT C g ps.length) ∧ Room k X.A ∧ X.mg x = some (.ref f) ∧ PySem.W.keepIn X.K (.ref f) = true ∧ Binds X.K fd ps [] ∧ ∀ ds h, ds.length ≠ ps.length → C g ds h = .stuck
/-- a context in which the own text is read -/
structure Gd (T : Tab) (XT : List Value) (N : List Str) (X : Cx) (C : CT) (bs : Option Scope) (sc : Scope) (W : WX) : Prop where
  N : X.N = N
  nd : X.N.Nodup
  calm : X.calm = true
  scp : X.env.scope = sc
  tgt : ∀ x, tgB bs sc x = true → Loc X.env.scope x ∧ (X.fn x = true ∨ X.env.scope.names.lookup x = some .local)
  bl : ∀ x, T.blts.contains x = true → X.mg x = none
  fn : ∀ x g, T.fns.lookup x = some g → CallOk T XT C X x g
  cs : ∀ x i, T.cons.lookup x = some i → ∃ t, X.mg x = some (.int i t)
  hu : X.A.units + 70 < cLine
  gd : X.A.guards = some []
  tk : Takes X W
section
variable {T : Tab} {XT : List Value} {N : List Str} {X : Cx} {C : CT} {bs : Option Scope} {sc : Scope} {W : WX}
theorem vis_of (g : Gd T XT N X C bs sc W) {x : Str} (h : visB sc x = true) : Vis X.env.scope x := by
  rw [g.scp]
  unfold visB at h
  unfold Vis
  split at h
  · rename_i e; exact .inl e
  · rename_i e; exact .inr (.inl e)
  · rename_i e; exact .inr (.inr e)
  · cases h
theorem gl_of (g : Gd T XT N X C bs sc W) {x : Str} (h : gloB sc x = true) : Gl X x := by
  unfold gloB at h
  show X.env.scope.names.lookup x = _
  rw [g.scp]
  split at h
  · assumption
  · cases h
theorem nm_of {x : Str} (h : nmOk x = true) : ((x == ("__debug__" : Str)) = false ∧ (x == ("__classdict__" : Str)) = false) ∧ x ≠ "__name__" := by
  unfold nmOk at h
  simp only [Bool.and_eq_true, decide_eq_true_eq] at h
  exact h
theorem ix_of (g : Gd T XT N X C bs sc W) {i : Nat} {x : Str} (h : N[i]? = some x) : X.N[i]? = some x := by rw [g.N]; exact h

theorem tru_tv {K : PySem.W.Frag} {G F : Hp} {m : List Addr} {h : Hea} {H : Hp} {d : D} {v : V} {k : Bool} (rl : Rel K G F m h H) (r : Rp K F m d v) (e : tru h d = some k) : TruV K v H k := by
  have seq : ∀ {ds : List D}, seqV h d = some ds → (!ds.isEmpty) = k → TruV K v H k := fun {ds} e1 e2 => by
    obtain ⟨p, vs, rfl, hq, r2⟩ := seqV_ok rl r e1
    have : (!ds.isEmpty) = !vs.isEmpty := by
      have l := r2.len
      cases ds <;> cases vs <;> simp_all
    rw [this] at e2
    rcases hq with hq | hq
    · exact .inl ⟨vs, hq, e2.symm⟩
    · exact .inr (.inl ⟨vs, hq, e2.symm⟩)
  cases d with
  | non => cases e; rw [rp_non r]; rfl
  | bl b => cases e; rw [rp_bl r]; rfl
  | int i => cases e; rw [rp_int r]; rfl
  | str x =>
    rw [rp_str r]
    have e : (if x.length ≤ SL then some (!x.isEmpty) else none) = some k := e
    obtain ⟨hz, e1⟩ := some_if e
    refine ⟨by rw [strLen, ← SLe]; exact hz, ?_⟩
    rw [strLen, ← e1]
    cases x with
    | nil => rfl
    | cons a b =>
      have : ((((a :: b : List Nat).length : Nat) : Int) != 0) = true := by simp; omega
      rw [this]; rfl
  | tup ds => exact seq (ds := ds) rfl (Option.some.inj e)
  | lst ds => exact seq (ds := ds) rfl (Option.some.inj e)
  | scr ns =>
    refine seq (ds := ns.map .int) rfl ?_
    rw [← Option.some.inj (show some (!ns.isEmpty) = some k from e)]
    cases ns <;> rfl
  | ref a =>
    have e : (match MP.get h a with | some (.lst ds) => some (!ds.isEmpty) | _ => none) = some k := e
    cases hc : MP.get h a with
    | none => rw [hc] at e; cases e
    | some c =>
      rw [hc] at e
      cases c with
      | lst ds => exact seq (ds := ds) (by unfold seqV; simp only [hc]) (Option.some.inj e)
      | _ => cases e
  | dic _ _ => cases e

theorem bnd_assoc {α β γ : Type} {r : R α} {f : α → Hea → R β} {g : β → Hea → R γ} : (r.bnd f).bnd g = r.bnd fun a h => (f a h).bnd g := by cases r <;> rfl
/-- the test of an expression whose test is its value's truth -/
theorem pt_of {ex : Ex} {e : Expr} (hp : PE X e (tE X.K XT C W ex)) (he : ∀ whole, isTrue e X.env whole = (do let v ← whole; standAt e.pos; holding [v] (truthy v)))
    (ht : ∀ ρ h, tr C ex ρ h = (ev C ex ρ h).bnd fun d h => lift (tru h d) h) : PT X e (tT X.K XT C W ex) := by
  refine (pt_truth hp he).imp fun σ H Q ⟨G, F, m, h, ρ, rl, er, q⟩ => ?_
  rw [ht] at q
  refine tE.bnd rl er q fun F1 m1 h1 H1 d v x1 rl1 er1 r1 q1 => ?_
  cases ed : tru h1 d with
  | none => rw [ed] at q1; exact q1.elim
  | some k => rw [ed] at q1; exact ⟨k, tru_tv rl1 r1 ed, q1.ok rl1⟩
theorem pt_none {ex : Ex} {e : Expr} (ht : ∀ ρ h, tr C ex ρ h = .stuck) : PT X e (tT X.K XT C W ex) :=
  ⟨fun pins s σ H Q I ⟨G, F, m, h, ρ, rl, er, q⟩ => by rw [ht] at q; exact q.elim⟩
end

section
variable {T : Tab} {XT : List Value} {N : List Str} {X : Cx} {C : CT} {bs : Option Scope} {sc : Scope} {W : WX} {pos : Pos} {a b c : Ex} {ea eb ec : Expr}
theorem n_nam (g : Gd T XT N X C bs sc W) {i : Nat} {x : Str} (h1 : N[i]? = some x) (h2 : visB sc x = true) (h3 : nmOk x = true) : PE X (.Name x pos) (tE X.K XT C W (.nam i)) := by
  refine (pe_var (ix_of g h1) (vis_of g h2) (nm_of h3).1.1 (nm_of h3).1.2).imp fun σ H Q ⟨G, F, m, h, ρ, rl, er, q⟩ => ?_
  unfold ev at q
  split at q
  · rename_i d ed
    obtain ⟨v, e1, r⟩ := er.2 i d ed
    exact ⟨v, e1, q.ok rl v r⟩
  · exact q.elim
theorem n_cst {d : D} {k : Const} {j} (hc : ckC d k = true) : PE X (.Constant k j pos) (tE X.K XT C W (.cst d)) := by
  have go : ∀ (v : V), (∀ F m, Rp X.K F m d v) → ∀ σ H Q, tE X.K XT C W (.cst d) σ H Q → tC v σ H Q := fun v r σ H Q ⟨G, F, m, h, ρ, rl, er, q⟩ => by
    unfold ev at q
    exact q.ok rl v (r _ _)
  unfold ckC at hc
  split at hc
  · exact pe_non.imp (go _ fun _ _ => mk_non)
  · rw [← eq_of_beq hc]; exact pe_bl.imp (go _ fun _ _ => mk_bl)
  · rw [← eq_of_beq hc]; exact pe_int.imp (go _ fun _ _ => mk_int)
  · rw [of_decide_eq_true hc]; exact pe_str.imp (go _ fun _ _ => mk_str)
  · cases hc
theorem n_glb (g : Gd T XT N X C bs sc W) {i : Int} {x : Str} (h1 : gloB sc x = true) (h2 : nmOk x = true) (h3 : T.cons.lookup x = some i) : PE X (.Name x pos) (tE X.K XT C W (.glb i)) := by
  obtain ⟨t, e⟩ := g.cs x i h3
  refine (pe_glob (v := .int i) (gl_of g h1) e ⟨t, rfl⟩ (nm_of h2).1.1).imp fun σ H Q ⟨G, F, m, h, ρ, rl, er, q⟩ => ?_
  unfold ev at q
  exact q.ok rl _ mk_int
theorem opB_of {o : BOp} {op : Operator} (h : opB o op = true) : op = opOf o := by cases o <;> cases op <;> first | rfl | cases h
theorem copB_of {o : COp} {op : CmpOp} (h : copB o op = true) : op = copOf o := by cases o <;> cases op <;> first | rfl | cases h
theorem n_bin {n : Bool} {o : BOp} {op : Operator} (ho : opB o op = true) (ha : PE X ea (tE X.K XT C W a)) (hb : PE X eb (tE X.K XT C W b)) : PE X (.BinOp ea op eb pos) (tE X.K XT C W (.bin n o a b)) := by
  rw [opB_of ho]
  refine (pe_op (op_bin (XT := XT) (n := n) o) ha hb).imp fun σ H Q ⟨G, F, m, h, ρ, rl, er, q⟩ => ?_
  unfold ev at q
  refine tE.bnd rl er q fun F1 m1 h1 H1 d v x1 rl1 er1 r1 q1 => ?_
  refine tE.bnd rl1 er1 q1 fun F2 m2 h2 H2 d' v' x2 rl2 er2 r2 q2 => ?_
  exact ⟨G, F2, m2, h2, _, d, d', rl2, Rp.mono x2 _ _ r1, r2, q2⟩
theorem n_neg (ha : PE X ea (tE X.K XT C W a)) : PE X (.UnaryOp .USub ea pos) (tE X.K XT C W (.neg a)) := by
  refine (pe_un un_neg ha).imp fun σ H Q ⟨G, F, m, h, ρ, rl, er, q⟩ => ?_
  unfold ev at q
  refine tE.bnd rl er q fun F1 m1 h1 H1 d v x1 rl1 er1 r1 q1 => ?_
  cases d with
  | int i => exact ⟨i, rp_int r1, q1.ok rl1 _ mk_int⟩
  | _ => exact q1.elim
theorem lift_inv {K : PySem.W.Frag} {W : Value → Option Addr → Hp → Prop} {G F : Hp} {m : List Addr} {h : Hea} {H : Hp} {α : Type} {o : Option α} {Z : Hp → List Addr → Hea → Hp → α → Prop} (rl : Rel K G F m h H) (p : Pst K XT W G F m (lift o h) Z) : ∃ d, o = some d ∧ Z F m h H d := by
  cases o with
  | none => exact p.elim
  | some d => exact ⟨d, rfl, Pst.ok (a := d) p rl⟩
theorem cop_bl {K : PySem.W.Frag} {F : Hp} {m : List Addr} {o : COp} {h : Hea} {x y d : D} (e : cop o h x y = some d) : ∃ k, d = .bl k := by
  unfold cop at e
  cases o <;> dsimp only at e
  case eq => obtain ⟨k, _, e⟩ := Option.map_eq_some_iff.mp e; exact ⟨_, e.symm⟩
  case ne => obtain ⟨k, _, e⟩ := Option.map_eq_some_iff.mp e; exact ⟨_, e.symm⟩
  case lt => obtain ⟨k, _, e⟩ := Option.map_eq_some_iff.mp e; exact ⟨_, e.symm⟩
  case inn => obtain ⟨k, _, e⟩ := Option.map_eq_some_iff.mp e; exact ⟨_, e.symm⟩
  case notin => obtain ⟨k, _, e⟩ := Option.map_eq_some_iff.mp e; exact ⟨_, e.symm⟩
  all_goals
    split at e
    · cases e; exact ⟨_, rfl⟩
    · cases e
theorem n_cmp (g : Gd T XT N X C bs sc W) {o : COp} {op : CmpOp} (ho : copB o op = true) (ha : PE X ea (tE X.K XT C W a)) (hb : PE X eb (tE X.K XT C W b)) (hm : behindInMarks op eb = false) :
    PE X (.Compare ea [op] [eb] pos) (tE X.K XT C W (.cmp o a b)) ∧ PT X (.Compare ea [op] [eb] pos) (tT X.K XT C W (.cmp o a b)) := by
  have hu : X.A.units + 66 < cLine := by have := g.hu; omega
  rw [copB_of ho] at hm ⊢
  constructor
  · refine (pe_cmpR (op_cmp hu o) ha hb hm).imp fun σ H Q ⟨G, F, m, h, ρ, rl, er, q⟩ => ?_
    unfold ev at q
    refine tE.bnd rl er q fun F1 m1 h1 H1 d v x1 rl1 er1 r1 q1 => ?_
    refine tE.bnd rl1 er1 q1 fun F2 m2 h2 H2 d' v' x2 rl2 er2 r2 q2 => ?_
    obtain ⟨e, e1, q3⟩ := lift_inv rl2 q2
    exact ⟨G, F2, m2, h2, d, d', e, rl2, Rp.mono x2 _ _ r1, r2, e1, q3⟩
  · refine (pt_cmpR (op_cmp hu o) ha hb hm).imp fun σ H Q ⟨G, F, m, h, ρ, rl, er, q⟩ => ?_
    unfold tr at q
    refine tE.bnd rl er q fun F1 m1 h1 H1 d v x1 rl1 er1 r1 q1 => ?_
    refine tE.bnd rl1 er1 q1 fun F2 m2 h2 H2 d' v' x2 rl2 er2 r2 q2 => ?_
    split at q2
    · rename_i k e1
      exact ⟨G, F2, m2, h2, d, d', .bl k, rl2, Rp.mono x2 _ _ r1, r2, e1, fun v rv => ⟨k, rp_bl rv, q2.ok rl2⟩⟩
    · exact q2.elim
theorem lm_of {op op' : CmpOp} {x y : Expr} (h : behindInMarks op' y = false) : lastMarks [op, op'] [x, y] = false := h
theorem n_chn (g : Gd T XT N X C bs sc W) {o o' : COp} {op op' : CmpOp} (ho : copB o op = true) (ho' : copB o' op' = true) (ha : PE X ea (tE X.K XT C W a)) (hb : PE X eb (tE X.K XT C W b)) (hc : PE X ec (tE X.K XT C W c)) (hm : behindInMarks op' ec = false) :
    PE X (.Compare ea [op, op'] [eb, ec] pos) (tE X.K XT C W (.chn o o' a b c)) ∧ PT X (.Compare ea [op, op'] [eb, ec] pos) (tT X.K XT C W (.chn o o' a b c)) := by
  have hu : X.A.units + 66 < cLine := by have := g.hu; omega
  rw [copB_of ho, copB_of ho'] at *
  constructor
  · refine (pe_chain (op_cmp hu o) (op_cmp hu o') ha hb hc (lm_of hm)).imp fun σ H Q ⟨G, F, m, h, ρ, rl, er, q⟩ => ?_
    unfold ev at q
    refine tE.bnd rl er q fun F1 m1 h1 H1 d v x1 rl1 er1 r1 q1 => ?_
    refine tE.bnd rl1 er1 q1 fun F2 m2 h2 H2 d' v' x2 rl2 er2 r2 q2 => ?_
    refine ⟨G, F2, m2, h2, d, d', ?_⟩
    split at q2
    · rename_i e1
      refine ⟨_, rl2, Rp.mono x2 _ _ r1, r2, e1, fun v rv => ⟨true, rp_bl rv, ?_⟩⟩
      rw [if_pos rfl]
      refine tE.bnd rl2 er2 q2 fun F3 m3 h3 H3 d3 v3 x3 rl3 er3 r3 q3 => ?_
      obtain ⟨e, e2, q4⟩ := lift_inv rl3 q3
      exact ⟨G, F3, m3, h3, d', d3, e, rl3, Rp.mono x3 _ _ r2, r3, e2, q4⟩
    · rename_i e1
      refine ⟨_, rl2, Rp.mono x2 _ _ r1, r2, e1, fun v rv => ⟨false, rp_bl rv, ?_⟩⟩
      rw [if_neg (by decide)]
      exact q2.ok rl2 _ mk_bl
    · exact q2.elim
  · refine (pt_chain (op_cmp hu o) (op_cmp hu o') ha hb hc (lm_of hm)).imp fun σ H Q ⟨G, F, m, h, ρ, rl, er, q⟩ => ?_
    unfold tr at q
    refine tE.bnd rl er q fun F1 m1 h1 H1 d v x1 rl1 er1 r1 q1 => ?_
    refine tE.bnd rl1 er1 q1 fun F2 m2 h2 H2 d' v' x2 rl2 er2 r2 q2 => ?_
    refine ⟨G, F2, m2, h2, d, d', ?_⟩
    split at q2
    · rename_i e1
      refine ⟨_, rl2, Rp.mono x2 _ _ r1, r2, e1, fun v rv => ⟨true, rp_bl rv, ?_⟩⟩
      rw [if_pos rfl]
      refine tE.bnd rl2 er2 q2 fun F3 m3 h3 H3 d3 v3 x3 rl3 er3 r3 q3 => ?_
      refine ⟨G, F3, m3, h3, d', d3, ?_⟩
      split at q3
      · rename_i k e2
        exact ⟨.bl k, rl3, Rp.mono x3 _ _ r2, r3, e2, fun v rv => ⟨k, rp_bl rv, q3.ok rl3⟩⟩
      · exact q3.elim
    · rename_i e1
      refine ⟨_, rl2, Rp.mono x2 _ _ r1, r2, e1, fun v rv => ⟨false, rp_bl rv, ?_⟩⟩
      rw [if_neg (by decide)]
      exact ⟨false, rfl, q2.ok rl2⟩
    · exact q2.elim
variable {rest : List Expr}
theorem n_and (ha : PE X ea (tE X.K XT C W a)) (hb : PE X (.BoolOp .And (eb :: rest) pos) (tE X.K XT C W b)) : PE X (.BoolOp .And (ea :: eb :: rest) pos) (tE X.K XT C W (.land a b)) := by
  refine (pe_and ha hb).imp fun σ H Q ⟨G, F, m, h, ρ, rl, er, q⟩ => ?_
  unfold ev at q
  refine tE.bnd rl er q fun F1 m1 h1 H1 d v x1 rl1 er1 r1 q1 => ?_
  cases d with
  | bl k =>
    refine ⟨k, rp_bl r1, ?_⟩
    cases k with
    | true => rw [if_pos rfl]; exact ⟨G, F1, m1, h1, ρ, rl1, er1, q1⟩
    | false => rw [if_neg (by decide)]; exact q1.ok rl1 _ mk_bl
  | _ => exact q1.elim
theorem n_or (ha : PE X ea (tE X.K XT C W a)) (hb : PE X (.BoolOp .Or (eb :: rest) pos) (tE X.K XT C W b)) : PE X (.BoolOp .Or (ea :: eb :: rest) pos) (tE X.K XT C W (.lor a b)) := by
  refine (pe_orT ha hb).imp fun σ H Q ⟨G, F, m, h, ρ, rl, er, q⟩ => ?_
  unfold ev at q
  refine tE.bnd rl er q fun F1 m1 h1 H1 d v x1 rl1 er1 r1 q1 => ?_
  split at q1
  · rename_i e
    refine ⟨true, tru_tv rl1 r1 e, ?_⟩
    rw [if_pos rfl]; exact q1.ok rl1 _ r1
  · rename_i e
    refine ⟨false, tru_tv rl1 r1 e, ?_⟩
    rw [if_neg (by decide)]; exact ⟨G, F1, m1, h1, ρ, rl1, er1, q1⟩
  · exact q1.elim
theorem w_and (ha : PT X ea (tT X.K XT C W a)) (hb : PW X (.BoolOp .And (eb :: rest) pos) (tT X.K XT C W b)) : PW X (.BoolOp .And (ea :: eb :: rest) pos) (tT X.K XT C W (.land a b)) := by
  refine (pw_and ha hb).imp fun σ H Q ⟨G, F, m, h, ρ, rl, er, q⟩ => ?_
  unfold tr at q
  refine tT.bnd rl er q fun F1 m1 h1 H1 k x1 rl1 er1 q1 => ?_
  cases k with
  | true => rw [if_pos rfl] at q1 ⊢; exact ⟨G, F1, m1, h1, ρ, rl1, er1, q1⟩
  | false => rw [if_neg (by decide)] at q1 ⊢; exact q1.ok rl1
theorem w_or (ha : PT X ea (tT X.K XT C W a)) (hb : PW X (.BoolOp .Or (eb :: rest) pos) (tT X.K XT C W b)) : PW X (.BoolOp .Or (ea :: eb :: rest) pos) (tT X.K XT C W (.lor a b)) := by
  refine (pw_or ha hb).imp fun σ H Q ⟨G, F, m, h, ρ, rl, er, q⟩ => ?_
  unfold tr at q
  refine tT.bnd rl er q fun F1 m1 h1 H1 k x1 rl1 er1 q1 => ?_
  cases k with
  | true => rw [if_pos rfl] at q1 ⊢; exact q1.ok rl1
  | false => rw [if_neg (by decide)] at q1 ⊢; exact ⟨G, F1, m1, h1, ρ, rl1, er1, q1⟩
theorem n_not (ha : PE X ea (tE X.K XT C W a)) : PE X (.UnaryOp .Not ea pos) (tE X.K XT C W (.lnot a)) := by
  refine (pe_not ha).imp fun σ H Q ⟨G, F, m, h, ρ, rl, er, q⟩ => ?_
  unfold ev at q
  refine tE.bnd rl er q fun F1 m1 h1 H1 d v x1 rl1 er1 r1 q1 => ?_
  cases d with
  | bl k => exact ⟨k, rp_bl r1, q1.ok rl1 _ mk_bl⟩
  | _ => exact q1.elim
theorem t_not (ha : PT X ea (tT X.K XT C W a)) : PT X (.UnaryOp .Not ea pos) (tT X.K XT C W (.lnot a)) := by
  refine (pt_not ha).imp fun σ H Q ⟨G, F, m, h, ρ, rl, er, q⟩ => ?_
  unfold tr at q
  exact tT.bnd rl er q fun F1 m1 h1 H1 k x1 rl1 er1 q1 => q1.ok rl1
theorem n_ite (hc : PT X ec (tT X.K XT C W c)) (ha : PE X ea (tE X.K XT C W a)) (hb : PE X eb (tE X.K XT C W b)) : PE X (.IfExp ec ea eb pos) (tE X.K XT C W (.ite c a b)) := by
  refine (pe_ifExp hc ha hb).imp fun σ H Q ⟨G, F, m, h, ρ, rl, er, q⟩ => ?_
  unfold ev at q
  refine tT.bnd rl er q fun F1 m1 h1 H1 k x1 rl1 er1 q1 => ?_
  cases k with
  | true => rw [if_pos rfl] at q1 ⊢; exact ⟨G, F1, m1, h1, ρ, rl1, er1, q1⟩
  | false => rw [if_neg (by decide)] at q1 ⊢; exact ⟨G, F1, m1, h1, ρ, rl1, er1, q1⟩
theorem t_ite (hc : PT X ec (tT X.K XT C W c)) (ha : PT X ea (tT X.K XT C W a)) (hb : PT X eb (tT X.K XT C W b)) : PT X (.IfExp ec ea eb pos) (tT X.K XT C W (.ite c a b)) := by
  refine ⟨fun pins s σ H Q I ⟨G, F, m, h, ρ, rl, er, q⟩ => ?_⟩
  unfold tr at q
  have q' : tT X.K XT C W c σ H (fun k H1 => if k = true then tT X.K XT C W a σ H1 Q else tT X.K XT C W b σ H1 Q) := by
    refine tT.bnd rl er q fun F1 m1 h1 H1 k x1 rl1 er1 q1 => ?_
    cases k with
    | true => rw [if_pos rfl] at q1 ⊢; exact ⟨G, F1, m1, h1, ρ, rl1, er1, q1⟩
    | false => rw [if_neg (by decide)] at q1 ⊢; exact ⟨G, F1, m1, h1, ρ, rl1, er1, q1⟩
  refine isTrue_IfExp (thn (hc.run pins s σ H _ I q') fun k s1 ⟨H1, I1, q1⟩ => ?_)
  cases k with
  | true => rw [if_pos rfl] at q1; exact ha.run pins s1 σ H1 Q I1 q1
  | false => rw [if_neg (by decide)] at q1; exact hb.run pins s1 σ H1 Q I1 q1
end
end MP

set_option maxHeartbeats 1000000
/-! Expressions: lists of them, subscripts, displays, calls. -/
namespace MP
open PySem PySem.Spec PyProof.Rows L2

def noStar : Expr → Bool
  | .Starred _ _ => false
  | _ => true
theorem star1 {e : Expr} {es : List Expr} {env : PySem.Env} (h : noStar e = true) : starEach (e :: es) env = (false, eval e env) :: starEach es env := by cases e <;> first | rfl | cases h
theorem star_no : ∀ {es : List Expr} {env : PySem.Env} {pos : Pos}, (∀ e ∈ es, noStar e = true) → (backTo pos (starEach es env)).any (·.1) = false
  | [], _, _, _ => rfl
  | e :: es, env, pos, h => by
    rw [star1 (h e List.mem_cons_self)]
    have ih := star_no (env := env) (pos := pos) fun x hx => h x (List.mem_cons_of_mem _ hx)
    show (false || (backTo pos (starEach es env)).any (·.1)) = false
    rw [ih]; rfl
theorem star_all : ∀ {es : List Expr} {env : PySem.Env} {pos : Pos}, (∀ e ∈ es, noStar e = true) → (backTo pos (starEach es env)).all (fun x => !x.1) = true
  | [], _, _, _ => rfl
  | e :: es, env, pos, h => by
    rw [star1 (h e List.mem_cons_self)]
    have ih := star_all (env := env) (pos := pos) fun x hx => h x (List.mem_cons_of_mem _ hx)
    show (true && (backTo pos (starEach es env)).all (fun x => !x.1)) = true
    rw [ih]; rfl
theorem plain_ix {e : Expr} (h : noSlice e = true) : PlainIx e := by
  intro o i
  cases e <;> first | rfl | cases h

section
variable {T : Tab} {XT : List Value} {N : List Str} {X : Cx} {C : CT} {bs : Option Scope} {sc : Scope} {W : WX} {pos : Pos} {a b c : Ex} {ea eb ec : Expr} {l : List Expr} {es : Exs}
/-- each of them is read as it says -/
inductive AllE (X : Cx) (XT : List Value) (C : CT) (W : WX) : Exs → List Expr → Prop where
  | nil : AllE X XT C W .nil []
  | cons {a : Ex} {e : Expr} {es : Exs} {l : List Expr} : PE X e (tE X.K XT C W a) → noStar e = true → AllE X XT C W es l → AllE X XT C W (.cons a es) (e :: l)
theorem AllE.star (h : AllE X XT C W es l) : ∀ e ∈ l, noStar e = true := by
  induction h with
  | nil => intro e he; simp at he
  | cons _ hs _ ih =>
    intro x hx
    rcases List.mem_cons.mp hx with rfl | hx
    · exact hs
    · exact ih x hx
theorem n_nil : PA X [] (tEs X.K XT C W .nil) := pa_nil.imp fun σ H Q ⟨G, F, m, h, ρ, rl, er, q⟩ => by
  unfold evs at q
  exact q.ok rl _ .mk0
theorem n_cons (ha : PE X ea (tE X.K XT C W a)) (hs : noStar ea = true) (hr : PA X l (tEs X.K XT C W es)) : PA X (ea :: l) (tEs X.K XT C W (.cons a es)) := by
  refine (pa_cons ha hr (star1 hs)).imp fun σ H Q ⟨G, F, m, h, ρ, rl, er, q⟩ => ?_
  unfold evs at q
  refine tE.bnd rl er q fun F1 m1 h1 H1 d v x1 rl1 er1 r1 q1 => ?_
  refine tEs.bnd rl1 er1 q1 fun F2 m2 h2 H2 ds vs x2 rl2 er2 r2 q2 => ?_
  exact q2.ok rl2 _ (.mk (Rp.mono x2 _ _ r1) r2)
theorem AllE.pa (h : AllE X XT C W es l) : PA X l (tEs X.K XT C W es) := by
  induction h with
  | nil => exact n_nil
  | cons ha hs _ ih => exact n_cons ha hs ih
theorem n_tup {k} (hr : PA X l (tEs X.K XT C W es)) : PE X (.Tuple l k pos) (tE X.K XT C W (.tup es)) := by
  refine (pe_tup hr).imp fun σ H Q ⟨G, F, m, h, ρ, rl, er, q⟩ => ?_
  unfold ev at q
  refine tEs.bnd rl er q fun F1 m1 h1 H1 ds vs x1 rl1 er1 r1 q1 => ?_
  by_cases hz : ds.length ≤ SL
  · rw [if_pos hz] at q1
    exact ⟨by rw [← r1.len, ← SLe]; exact hz, fun p np => new_tup (n := false) rl1 q1 r1 np⟩
  · rw [if_neg hz] at q1; exact q1.elim
theorem n_lst {n : Bool} (hr : PA X l (tEs X.K XT C W es)) : PE X (.List l pos) (tE X.K XT C W (.lst n es)) := by
  refine (pe_lst hr).imp fun σ H Q ⟨G, F, m, h, ρ, rl, er, q⟩ => ?_
  unfold ev at q
  refine tEs.bnd rl er q fun F1 m1 h1 H1 ds vs x1 rl1 er1 r1 q1 => ?_
  by_cases hz : ds.length ≤ SL
  · rw [if_pos hz] at q1
    exact ⟨by rw [← r1.len, ← SLe]; exact hz, fun p np => new_lst rl1 q1 r1 np⟩
  · rw [if_neg hz] at q1; exact q1.elim
theorem n_idx (g : Gd T XT N X C bs sc W) (hs : noSlice eb = true) (ha : PE X ea (tE X.K XT C W a)) (hb : PE X eb (tE X.K XT C W b)) : PE X (.Subscript ea eb pos) (tE X.K XT C W (.idx a b)) := by
  refine (pe_ix (op_ix (by have := g.hu; omega)) ha hb (plain_ix hs)).imp fun σ H Q ⟨G, F, m, h, ρ, rl, er, q⟩ => ?_
  unfold ev at q
  refine tE.bnd rl er q fun F1 m1 h1 H1 d v x1 rl1 er1 r1 q1 => ?_
  refine tE.bnd rl1 er1 q1 fun F2 m2 h2 H2 d' v' x2 rl2 er2 r2 q2 => ?_
  obtain ⟨e, e1, q3⟩ := lift_inv rl2 q2
  exact ⟨G, F2, m2, h2, d, d', e, rl2, Rp.mono x2 _ _ r1, r2, e1, q3⟩
theorem n_ono : PO X none (tO X.K XT C W .none) := po_none.imp fun σ H Q ⟨G, F, m, h, ρ, rl, er, q⟩ => by
  unfold evo at q
  exact q.ok rl
theorem n_oso (ha : PE X ea (tE X.K XT C W a)) : PO X (some ea) (tO X.K XT C W (.some a)) := (po_some ha).imp fun σ H Q ⟨G, F, m, h, ρ, rl, er, q⟩ => by
  unfold evo at q
  refine tE.bnd rl er q fun F1 m1 h1 H1 d v x1 rl1 er1 r1 q1 => ?_
  cases d with
  | int i => exact ⟨i, rp_int r1, q1.ok rl1⟩
  | _ => exact q1.elim
theorem n_slc {n : Bool} {lo hi : OEx} {elo ehi : Option Expr} {p2 : Pos} (ha : PE X ea (tE X.K XT C W a)) (hl : PO X elo (tO X.K XT C W lo)) (hh : PO X ehi (tO X.K XT C W hi)) : PE X (.Subscript ea (.Slice elo ehi none p2) pos) (tE X.K XT C W (.slc n a lo hi)) := by
  refine (pe_slice (op_slice (XT := XT) (n := n)) ha hl hh).imp fun σ H Q ⟨G, F, m, h, ρ, rl, er, q⟩ => ?_
  unfold ev at q
  refine tE.bnd rl er q fun F1 m1 h1 H1 d v x1 rl1 er1 r1 q1 => ?_
  refine tO.bnd rl1 er1 q1 fun F2 m2 h2 H2 o x2 rl2 er2 q2 => ?_
  refine tO.bnd rl2 er2 q2 fun F3 m3 h3 H3 o' x3 rl3 er3 q3 => ?_
  exact ⟨G, F3, m3, h3, _, d, rl3, Rp.mono x3 _ _ (Rp.mono x2 _ _ r1), q3⟩

/-! ### an address kept for oneself -/
theorem Pst.wk {K : PySem.W.Frag} {W : Value → Option Addr → Hp → Prop} {G G' F : Hp} {m : List Addr} {α : Type} {r : R α} {Z : Hp → List Addr → Hea → Hp → α → Prop} (s : ∀ q u, G q = some u → G' q = some u) (p : Pst K XT W G F m r Z) : Pst K XT W G' F m r Z := by
  cases r with
  | ok a h' => exact fun F' m' H' x rl => p F' m' H' x (rl.wk s)
  | ex e h' => exact fun F' m' H' c d x rl q => p F' m' H' c d x (rl.wk s) q
  | stuck => exact p
theorem sub_upd {G : Hp} {p : Addr} {o : HO} (n : G p = none) : ∀ q u, G q = some u → upd G p o q = some u := fun q u e => by
  rw [upd_ne (fun z => by rw [z, n] at e; cases e)]; exact e
theorem upd_upd {G : Hp} {p : Addr} {o o' : HO} : upd (upd G p o) p o' = upd G p o' := by
  funext q
  by_cases h : q = p
  · rw [h, upd_same, upd_same]
  · rw [upd_ne h, upd_ne h, upd_ne h]
theorem own_lst {n : Bool} {K : PySem.W.Frag} {W : Value → Option Addr → Hp → Prop} {G F : Hp} {m : List Addr} {h : Hea} {H : Hp} {p : Addr} {o : HO} {ds : List D} {vs : List V} {Q : VK} (rl : Rel K (upd G p o) F m h H) (gn : G p = none)
    (q : Pst K XT W G F m (mk n (some (.lst ds)) h) (ZV K Q)) (r : Rps K F m ds vs) : Q (.ref p) (upd H p (.lst vs)) := by
  obtain ⟨_, hF, hm⟩ := rl.kp p o upd_same
  have rl' := rl.wk (sub_upd gn)
  cases n with
  | false =>
    obtain ⟨rl2, x⟩ := rl'.upF (o := .lst vs) hF hm gn
    exact q _ _ _ x rl2 _ (mk_lst upd_same (Rps.mono x _ _ r))
  | true =>
    have x : Ext F m F (p :: m) := ⟨fun _ _ h => h, [p], rfl⟩
    obtain ⟨rl2, x⟩ := rl'.upC (c := .lst ds) (o := .lst vs) hF hm gn ⟨hF, vs, upd_same, Rps.mono x _ _ r⟩ (by unfold cbelow; rw [← rl.len]; exact Rps.below r)
    exact q _ _ _ x rl2 _ (mk_ref (by rw [← rl.len]; exact get_self))
theorem keys_below {n : Nat} : ∀ {ks : List D} {kvs : List (Key × V)}, ks.map keyOf = kvs.map (fun p => some p.1) → belows n ks = true
  | [], _, _ => by unfold belows; rfl
  | k :: ks, [], h => by simp at h
  | k :: ks, p :: kvs, h => by
    simp only [List.map_cons, List.cons.injEq] at h
    unfold belows
    rw [keys_below h.2, Bool.and_true]
    have h1 := h.1
    cases k <;> first | (simp [keyOf] at h1; done) | (unfold below; rfl)
theorem own_dic {n : Bool} {K : PySem.W.Frag} {W : Value → Option Addr → Hp → Prop} {G F : Hp} {m : List Addr} {h : Hea} {H : Hp} {p : Addr} {o : HO} {ks ds : List D} {kvs : List (Key × V)} {Q : VK} (rl : Rel K (upd G p o) F m h H) (gn : G p = none)
    (q : Pst K XT W G F m (mk n (some (.dic ks ds)) h) (ZV K Q)) (hk : ks.map keyOf = kvs.map (fun p => some p.1)) (r : Rps K F m ds (kvs.map (·.2))) : Q (.ref p) (upd H p (.dK kvs)) := by
  obtain ⟨_, hF, hm⟩ := rl.kp p o upd_same
  have rl' := rl.wk (sub_upd gn)
  cases n with
  | false =>
    obtain ⟨rl2, x⟩ := rl'.upF (o := .dK kvs) hF hm gn
    refine q _ _ _ x rl2 _ ?_
    unfold Rp
    exact ⟨p, kvs, rfl, upd_same, hk, Rps.mono x _ _ r⟩
  | true =>
    have x : Ext F m F (p :: m) := ⟨fun _ _ h => h, [p], rfl⟩
    obtain ⟨rl2, x⟩ := rl'.upC (c := .dic ks ds) (o := .dK kvs) hF hm gn ⟨hF, kvs, upd_same, hk, Rps.mono x _ _ r⟩ (by
      show (belows h.length ks && belows h.length ds) = true
      rw [keys_below hk, ← rl.len, Rps.below r]; rfl)
    exact q _ _ _ x rl2 _ (mk_ref (by rw [← rl.len]; exact get_self))

/-! ### a dict display -/
def trsOf (K : PySem.W.Frag) (XT : List Value) (C : CT) (W : WX) : Exs → List (TE × TE)
  | .cons k (.cons v r) => (tE K XT C W k, tE K XT C W v) :: trsOf K XT C W r
  | _ => []
def evnX : Exs → Bool
  | .nil => true
  | .cons _ (.cons _ r) => evnX r
  | _ => false
theorem pps_of : ∀ {ks : List (Option Expr)} {vs : List Expr} {l : List Expr} {es : Exs}, inter ks vs = some l → AllE X XT C W es l → PPs X pos ks vs (trsOf X.K XT C W es) ∧ ks.all (·.isSome) = true ∧ ks.length = vs.length ∧ evnX es = true
  | [], [], l, es, h, ha => by
    cases h
    cases ha
    exact ⟨pps_nil, rfl, rfl, rfl⟩
  | some k :: ks, v :: vs, l, es, h, ha => by
    obtain ⟨r, e1, rfl⟩ := Option.map_eq_some_iff.mp (show (inter ks vs).map (fun r => k :: v :: r) = some l from h)
    cases ha with
    | cons h1 s1 ha =>
      cases ha with
      | cons h2 s2 ha =>
        obtain ⟨p1, p2, p3, p4⟩ := pps_of e1 ha
        refine ⟨pps_cons h1 h2 p1, ?_, by simp [p3], p4⟩
        rw [List.all_cons, p2]; rfl
  | [], _ :: _, _, _, h, _ => by cases h
  | none :: _, _, _, _, h, _ => by cases h
  | some _ :: _, [], _, _, h, _ => by cases h
theorem pairs_ok {K : PySem.W.Frag} : ∀ {es : Exs} {G F : Hp} {m : List Addr} {h : Hea} {H : Hp} {ρ : Env} {σ : Stt} {R : List (V × V) → Hp → Prop}, evnX es = true → Rel K G F m h H → Er K F m ρ σ →
    Pst K XT (WAt W σ) G F m (evs C es ρ h) (fun F' m' h' H' ds => ∀ ps : List (V × V), Rps K F' m' (evens ds) (ps.map (·.1)) → Rps K F' m' (odds ds) (ps.map (·.2)) → R ps H') → tPairs (trsOf K XT C W es) σ H R
  | .nil, G, F, m, h, H, ρ, σ, R, hv, rl, er, q => by
    unfold evs at q
    exact q.ok rl [] .mk0 .mk0
  | .cons a .nil, G, F, m, h, H, ρ, σ, R, hv, rl, er, q => by cases hv
  | .cons a (.cons b r), G, F, m, h, H, ρ, σ, R, hv, rl, er, q => by
    unfold evs at q
    refine tE.bnd rl er q fun F1 m1 h1 H1 d v x1 rl1 er1 r1 q1 => ?_
    unfold evs at q1
    rw [bnd_assoc] at q1
    refine tE.bnd rl1 er1 q1 fun F2 m2 h2 H2 d' v' x2 rl2 er2 r2 q2 => ?_
    rw [bnd_assoc] at q2
    refine pairs_ok hv rl2 er2 (q2.bnd.mono fun F3 m3 h3 H3 ds x3 rl3 q3 => ?_)
    intro ps p1 p2
    exact Pst.ok q3 rl3 ((v, v') :: ps) (.mk (Rp.mono x3 _ _ (Rp.mono x2 _ _ r1)) p1) (.mk (Rp.mono x3 _ _ r2) p2)
theorem kvs_of {K : PySem.W.Frag} {F : Hp} {m : List Addr} : ∀ {ks : List D} {ps : List (V × V)}, nodupK ks = true → Rps K F m ks (ps.map (·.1)) →
    ∃ kvs : List (Key × V), ps = kvs.map (fun kv => (kV kv.1, kv.2)) ∧ ks.map keyOf = kvs.map (fun p => some p.1) ∧ (kvs.map (·.1)).Nodup
  | [], ps, _, r => by
    have := r.nil
    cases ps with
    | nil => exact ⟨[], rfl, rfl, List.nodup_nil⟩
    | cons p ps => simp at this
  | k :: ks, ps, hn, r => by
    obtain ⟨v, w, e, r1, r2⟩ := r.cons
    cases ps with
    | nil => simp at e
    | cons p ps =>
      simp only [List.map_cons, List.cons.injEq] at e
      obtain ⟨rfl, rfl⟩ := e
      unfold nodupK at hn
      simp only [Bool.and_eq_true] at hn
      obtain ⟨⟨ik, na⟩, hn⟩ := hn
      obtain ⟨κ, ek⟩ := keyOf_some ik
      obtain ⟨kvs, rfl, e2, nd⟩ := kvs_of hn r2
      refine ⟨(κ, p.2) :: kvs, ?_, ?_, ?_⟩
      · obtain ⟨p1, p2⟩ := p
        rw [List.map_cons, ← key_v ek r1]
      · rw [List.map_cons, List.map_cons, ek, e2]
      · rw [List.map_cons]
        refine List.nodup_cons.mpr ⟨fun hm => ?_, nd⟩
        obtain ⟨q, hq, eq⟩ := List.mem_map.mp hm
        have h1 : (some q.1 : Option Key) ∈ ks.map keyOf := by rw [e2]; exact List.mem_map.mpr ⟨q, hq, rfl⟩
        obtain ⟨k', hk', ek'⟩ := List.mem_map.mp h1
        have h2 : keyEq k k' = true := by rw [keyEq_iff ek ek', eq]; simp
        have h3 : ks.any (keyEq k) = true := List.any_eq_true.mpr ⟨k', hk', h2⟩
        rw [h3] at na; cases na
theorem valV_none {kvs : List (Key × V)} {k : Key} (h : k ∉ kvs.map (·.1)) : valV kvs k = none := by
  induction kvs with
  | nil => rfl
  | cons p kvs ih =>
    rw [List.map_cons, List.mem_cons, not_or] at h
    rw [valV_neg (fun e => h.1 e.symm)]
    exact ih h.2
theorem mergeK_nd : ∀ (more kvs : List (Key × V)), ((kvs ++ more).map (·.1)).Nodup → mergeK kvs more = kvs ++ more
  | [], kvs, _ => by rw [List.append_nil]; rfl
  | p :: more, kvs, h => by
    show mergeK (putK kvs p.1 p.2) more = _
    have e : kvs ++ p :: more = (kvs ++ [p]) ++ more := by simp
    rw [putK_new p.2 (valV_none ?_), mergeK_nd more (kvs ++ [(p.1, p.2)]) (by rw [e] at h; exact h), e]
    rw [List.map_append, List.nodup_append] at h
    intro hm
    exact h.2.2 p.1 hm p.1 (by simp) rfl
theorem disp_inv {ds : List D} {d : D} (e : disp ds = some d) : d = .dic (evens ds) (odds ds) ∧ nodupK (evens ds) = true ∧ ds.length ≤ 30 := by
  unfold disp at e
  obtain ⟨h, e⟩ := some_if e
  simp only [Bool.and_eq_true, decide_eq_true_eq] at h
  exact ⟨e.symm, h.1.1, h.1.2⟩
theorem evens_len : ∀ ds : List D, (evens ds).length * 2 ≤ ds.length
  | [] => by unfold evens; simp
  | [_] => by unfold evens; simp
  | _ :: _ :: r => by
    have := evens_len r
    unfold evens
    simp only [List.length_cons]; omega
theorem n_dic {n : Bool} {ks : List (Option Expr)} {vs : List Expr} (h15 : vs.length ≤ 15) (hi : inter ks vs = some l) (ha : AllE X XT C W es l) : PE X (.Dict ks vs pos) (tE X.K XT C W (.dic n es)) := by
  obtain ⟨pp, hall, hl, hv⟩ := pps_of (pos := pos) hi ha
  by_cases h0 : ks = []
  · subst h0
    have e0 : vs = [] := List.eq_nil_of_length_eq_zero hl.symm
    subst e0
    cases hi
    cases ha
    refine pe_dnewK.imp fun σ H Q ⟨G, F, m, h, ρ, rl, er, q⟩ => fun p np => ?_
    unfold ev evs at q
    have q : Pst X.K XT (WAt W σ) G F m (mk n (some (.dic [] [])) h) (ZV X.K Q) := q
    have gn := (rl.out np).2.2
    have := own_dic (kvs := []) (rl.upG (o := .dK []) (rl.out np).1 (rl.out np).2.1) gn q rfl .mk0
    rw [upd_upd] at this
    exact this
  · refine (pe_disp pp hall hl h0 (by omega)).imp fun σ H Q ⟨G, F, m, h, ρ, rl, er, q⟩ => fun p np => ?_
    unfold ev at q
    have gn := (rl.out np).2.2
    have rl1 := rl.upG (o := .dK []) (rl.out np).1 (rl.out np).2.1
    refine pairs_ok hv rl1 er ((q.bnd.wk (sub_upd gn)).mono fun F1 m1 h1 H1 ds x1 rl2 q1 => ?_)
    intro ps p1 p2
    obtain ⟨d, ed, q2⟩ := mk_some q1
    obtain ⟨rfl, nd, hz⟩ := disp_inv ed
    obtain ⟨kvs, rfl, ek, nk⟩ := kvs_of nd p1
    have ev : (kvs.map (fun kv => (kV kv.1, kv.2))).map (·.2) = kvs.map (·.2) := by rw [List.map_map]; rfl
    rw [ev] at p2
    refine ⟨(rl2.kp p _ upd_same).1, kvs, rfl, ?_, ?_⟩
    · have h1 := congrArg List.length ek
      rw [List.length_map, List.length_map] at h1
      have h2 := evens_len ds
      omega
    · rw [mergeK_nd kvs [] (by simpa using nk)]
      exact own_dic rl2 gn q2 ek p2

/-! ### calls -/
theorem melt_ok {K : PySem.W.Frag} {W : Value → Option Addr → Hp → Prop} {G F : Hp} {m : List Addr} {n : Nat} {r : R D} {Q : VK} (hn : n = m.length) (p : Pst K XT W G F m (melt n r) (ZV K Q)) : Pst K XT W G F m r (ZV K Q) := by
  cases r with
  | ex x h' => exact p
  | stuck => exact p
  | ok d h' =>
    cases d with
    | ref a =>
      cases h' with
      | nil => exact p.elim
      | cons c h'' =>
        cases c with
        | lst ds =>
          have p : Pst K XT W G F m (if a = h''.length ∧ n ≤ a then .ok (.lst ds) h'' else .stuck) (ZV K Q) := p
          split at p
          · rename_i hc
            obtain ⟨ha, hle⟩ := hc
            intro F' m' H' x rl v rv
            obtain ⟨q, rfl, g⟩ := rp_ref rv
            obtain ⟨l, el⟩ := x.app
            have hlen := rl.len
            have hl : l ≠ [] := fun z => by
              subst z
              rw [List.nil_append] at el
              rw [el, List.length_cons] at hlen
              omega
            cases l with
            | nil => exact absurd rfl hl
            | cons q' l =>
              subst el
              have hl2 : (l ++ m).length = h''.length := by
                rw [List.cons_append, List.length_cons, List.length_cons] at hlen
                omega
              rw [ha, ← hl2] at g
              have g : MP.get (q' :: (l ++ m)) (l ++ m).length = some q := g
              rw [get_self] at g
              cases g
              have c0 := rl.cell h''.length (.lst ds) q get_self (by rw [← hl2]; exact get_self)
              obtain ⟨⟨fn, vs, hv, rs⟩, bl⟩ := c0
              have rl : Rel K G F' (q :: (l ++ m)) (.lst ds :: h'') H' := rl
              have nd := rl.nd
              have nm : q ∉ l ++ m := (List.nodup_cons.mp nd).1
              -- the rest of the cells
              have chg : ∀ {F9 : Hp}, (∀ p o, F' p = some o → F9 p = some o) → ∀ {es : List D} {ws : List V}, belows h''.length es = true → Rps K F' (q :: (l ++ m)) es ws → Rps K F9 (l ++ m) es ws := fun {F9} hF {es ws} hb hr =>
                Rps.chg hF (fun a p hlt hg => by
                  rw [get_old (by rw [hl2]; exact hlt)] at hg
                  exact hg) hb hr
              have hG : G q = none := by
                cases e : G q with
                | none => rfl
                | some u => exact absurd (List.mem_cons_self) (rl.kp q u e).2.2
              have rl2 : Rel K G (upd F' q (.lst vs)) (l ++ m) h'' H' := by
                refine ⟨fun p u e => ?_, fun p u e => ?_, hl2, (List.nodup_cons.mp nd).2, fun p hp => rl.on p (List.mem_cons_of_mem _ hp), fun b c p hb hp => ?_⟩
                · obtain ⟨k1, k2, k3⟩ := rl.kp p u e
                  have : p ≠ q := fun z => by rw [z, hG] at e; cases e
                  exact ⟨k1, by rw [upd_ne this]; exact k2, fun z => k3 (List.mem_cons_of_mem _ z)⟩
                · by_cases hq : p = q
                  · subst hq; rw [upd_same] at e; cases e; exact hv
                  · rw [upd_ne hq] at e; exact rl.sub p u e
                · have hlt := get_lt hb
                  obtain ⟨k, bb⟩ := rl.cell b c p (by rw [get_old hlt]; exact hb) (by
                    have hp' : MP.get (q :: (l ++ m)) b = some p := by rw [get_old (by rw [hl2]; exact hlt)]; exact hp
                    exact hp')
                  have hne : p ≠ q := fun z => nm (by rw [← z]; exact get_mem hp)
                  have hF9 : ∀ p o, F' p = some o → upd F' q (.lst vs) p = some o := fun p o e => by
                    by_cases hq : p = q
                    · subst hq; rw [fn] at e; cases e
                    · rw [upd_ne hq]; exact e
                  refine ⟨?_, bb⟩
                  cases c with
                  | lst es =>
                    obtain ⟨f, ws, e, rr⟩ := k
                    exact ⟨by rw [upd_ne hne]; exact f, ws, e, chg hF9 (belows_mono (Nat.le_of_lt hlt) bb) rr⟩
                  | dic ks es =>
                    obtain ⟨f, kvs, e, ek, rr⟩ := k
                    have bb : (belows b ks && belows b es) = true := bb
                    rw [Bool.and_eq_true] at bb
                    exact ⟨by rw [upd_ne hne]; exact f, kvs, e, ek, chg hF9 (belows_mono (Nat.le_of_lt hlt) bb.2) rr⟩
                  | dead => trivial
              have hF9 : ∀ p o, F' p = some o → upd F' q (.lst vs) p = some o := fun p o e => by
                by_cases hq : p = q
                · subst hq; rw [fn] at e; cases e
                · rw [upd_ne hq]; exact e
              refine p _ _ _ ⟨fun p o e => hF9 p o (x.sub p o e), l, rfl⟩ rl2 _ (mk_lst upd_same (chg hF9 bl rs))
          · exact p.elim
        | _ => exact p.elim
    | _ => exact p
theorem n_cal (g : Gd T XT N X C bs sc W) {n : Bool} {k : Nat} {x : Str} {p : Pos} {es : Exs} {e : Expr} (h1 : gloB sc x = true) (h2 : nmOk x = true) (h3 : T.fns.lookup x = some k) (ha : AllE X XT C W es (e :: l)) : PE X (.Call (.Name x p) (e :: l) [] pos) (tE X.K XT C W (.cal n k es)) := by
  obtain ⟨kk, f, fd, ps, F, hr, hm, hk, hb, hnp⟩ := (g.fn x k h3).ok
  have hst := ha.star
  refine (pe_callG F hr g.gd (gl_of g h1) hm hk hb (fun σ => passAt g.tk σ) ha.pa (nm_of h2).1.1 (star1 (hst _ List.mem_cons_self)) (star_no fun z hz => hst z (List.mem_cons_of_mem _ hz))).imp fun σ H Q ⟨G, F, m, h, ρ, rl, er, q⟩ => ?_
  unfold ev at q
  refine tEs.bnd rl er q fun F1 m1 h1 H1 ds vs x1 rl1 er1 r1 q1 => ?_
  have q2 : Pst X.K XT (WAt W σ) G F1 m1 (C k ds h1) (ZV X.K Q) := by
    cases n with
    | true => exact q1
    | false => exact melt_ok rl1.len.symm q1
  refine ⟨?_, G, F1, m1, h1, ds, rl1, r1, q2⟩
  rw [← r1.len]
  by_cases hz : ds.length = ps.length
  · exact hz
  · rw [hnp ds h1 hz] at q2; exact q2.elim
end
end MP

set_option maxHeartbeats 1000000
/-! Expressions: built-ins, methods, comprehensions; all of them. -/
namespace MP
open PySem PySem.Spec PyProof.Rows L2

section
variable {T : Tab} {XT : List Value} {N : List Str} {X : Cx} {C : CT} {bs : Option Scope} {sc : Scope} {W : WX} {pos : Pos} {a b c : Ex} {ea eb ec : Expr} {l : List Expr} {es : Exs}
def isTyB : Blt → Bool
  | .int => true | .str => true | .tuple => true | .list => true | _ => false
def idB : Blt → String
  | .len => "len" | .abs => "abs" | .max => "max" | .min => "min" | .int => "int" | .str => "str" | .tuple => "tuple" | .list => "list" | .sum => "sum" | .any => "any" | .all => "all" | .repr => "repr" | .sorted => "sorted" | .isi _ => "isinstance"
def valB (b : Blt) : Value := if isTyB b then .type (idB b) else .builtin (idB b)
theorem boot_B (b : Blt) : bootBuiltins (bltNm b) = some (valB b) := by
  cases b
  case isi ts => show bootBuiltins "isinstance" = some (.builtin "isinstance"); decide +kernel
  all_goals decide +kernel
theorem boot_T (t : Ty) : bootBuiltins (tyNm t) = some (.type (tyN t)) := by cases t <;> decide +kernel
theorem c_blt (hc : X.calm = true) (hg : X.A.guards = some []) (hu : X.A.units + 70 < cLine) (n : Bool) : ∀ b : Blt, isIsi b = false → CallR X (valB b) (rF X.K XT n (bltH b))
  | .len, _ => c_len
  | .abs, _ => c_abs
  | .max, _ => c_max hc
  | .min, _ => c_min hc
  | .int, _ => c_int
  | .str, _ => c_str
  | .tuple, _ => c_tuple
  | .list, _ => c_list
  | .sum, _ => c_sum hc
  | .any, _ => c_any hc
  | .all, _ => c_all hc
  | .repr, _ => c_repr hg hu
  | .sorted, _ => c_sorted hu
theorem n_blt (g : Gd T XT N X C bs sc W) {n : Bool} {k : Blt} {x : Str} {p : Pos} {e : Expr} (hi : isIsi k = false) (h1 : gloB sc x = true) (h2 : nmOk x = true) (h3 : x = bltNm k) (h4 : T.blts.contains x = true) (ha : AllE X XT C W es (e :: l)) : PE X (.Call (.Name x p) (e :: l) [] pos) (tE X.K XT C W (.blt n k es)) := by
  have hst := ha.star
  have s1 := star1 (env := X.env) (es := l) (hst _ List.mem_cons_self)
  have s2 := star_no (env := X.env) (pos := pos) fun z hz => hst z (List.mem_cons_of_mem _ hz)
  have hb : bootBuiltins x = some (valB k) := by rw [h3]; exact boot_B k
  have fin : ∀ (t : TE), PE X (.Call (.Name x p) (e :: l) [] pos) (tCB (rF X.K XT n (bltH k)) (tEs X.K XT C W es)) → PE X (.Call (.Name x p) (e :: l) [] pos) (tE X.K XT C W (.blt n k es)) := fun _ hp => by
    refine hp.imp fun σ H Q ⟨G, F, m, h, ρ, rl, er, q⟩ => ?_
    unfold ev at q
    refine tEs.bnd rl er q fun F1 m1 h1 H1 ds vs x1 rl1 er1 r1 q1 => ?_
    exact ⟨G, F1, m1, h1, _, ds, rl1, r1, q1⟩
  have hc := c_blt (XT := XT) g.calm g.gd g.hu n k hi
  unfold valB at hb hc
  by_cases ht : isTyB k = true
  · rw [if_pos ht] at hb hc
    exact fin (fun _ _ _ => True) (pe_callTy hc (gl_of g h1) (g.bl x h4) hb ha.pa (nm_of h2).2 (nm_of h2).1.1 s1 s2)
  · rw [if_neg ht] at hb hc
    exact fin (fun _ _ _ => True) (pe_callB hc (gl_of g h1) (g.bl x h4) hb ha.pa (nm_of h2).2 (nm_of h2).1.1 s1 s2)

/-! ### isinstance -/
def tCs : List V → TA
  | [] => tNil
  | v :: vs => tCons (tC v) (tCs vs)
theorem tCs_ok : ∀ (vs : List V) {σ : Stt} {H : Hp} {Q : List V → Hp → Prop}, Q vs H → tCs vs σ H Q
  | [], _, _, _, q => q
  | v :: vs, σ, H, Q, q => tCs_ok vs (Q := fun r H1 => Q (v :: r) H1) q
theorem pe_ty (g : Gd T XT N X C bs sc W) {t : Ty} {x : Str} {p : Pos} (h1 : x = tyNm t) (h2 : gloB sc x = true) (h3 : T.blts.contains x = true) (h4 : nmOk x = true) : PE X (.Name x p) (tC (.ty (tyN t))) :=
  pe_bltn (gl_of g h2) (g.bl x h3) (by rw [h1]; exact boot_T t) rfl (nm_of h4).2 (nm_of h4).1.1
theorem pa_tys (g : Gd T XT N X C bs sc W) : ∀ {ts : List Ty} {es : List Expr}, ckTy.go T sc ts es = true → PA X es (tCs (ts.map fun t => .ty (tyN t)))
  | [], [], _ => pa_nil
  | t :: ts, .Name x p :: es, h => by
    unfold ckTy.go at h
    simp only [Bool.and_eq_true, decide_eq_true_eq] at h
    obtain ⟨⟨⟨⟨h1, h2⟩, h3⟩, h4⟩, h5⟩ := h
    exact pa_cons (pe_ty g h1 h2 h3 h4) (pa_tys g h5) rfl
  | [], _ :: _, h => by unfold ckTy.go at h; cases h
  | _ :: _, [], h => by unfold ckTy.go at h; cases h
theorem cls_all : ∀ ts : List Ty, Paired ClsV (ts.map fun t => V.ty (tyN t)) (ts.map fun t => Value.type (tyN t))
  | [] => .nil
  | t :: ts => .cons (.ty _) (cls_all ts)
theorem n_isi (g : Gd T XT N X C bs sc W) {n : Bool} {ts : List Ty} {x : Str} {p : Pos} {e et : Expr} (h1 : gloB sc x = true) (h2 : nmOk x = true) (h3 : x = "isinstance") (h4 : T.blts.contains x = true) (ha : AllE X XT C W es [e]) (ht : ckTy T sc ts et = true) :
    PE X (.Call (.Name x p) [e, et] [] pos) (tE X.K XT C W (.blt n (.isi ts) es)) := by
  subst h3
  cases ha with
  | cons hp hs hr =>
    rename_i a0 es0
    cases hr
    have s1 := star1 (env := X.env) (es := [et]) hs
    have hb : bootBuiltins "isinstance" = some (.builtin "isinstance") := by decide +kernel
    have start : ∀ {σ : Stt} {H : Hp} {Q : VK}, tE X.K XT C W (.blt n (.isi ts) (.cons a0 .nil)) σ H Q → tE X.K XT C W a0 σ H fun v H1 => ∃ G F m h d k, Rel X.K G F m h H1 ∧ Rp X.K F m d v ∧ isiH h d ts = some k ∧ Pst X.K XT (WAt W σ) G F m (.ok (.bl k) h) (ZV X.K Q) := fun {σ H Q} ⟨G, F, m, h, ρ, rl, er, q⟩ => by
      unfold ev evs at q
      rw [bnd_assoc] at q
      refine tE.bnd rl er q fun F1 m1 h1 H1 d v x1 rl1 er1 r1 q1 => ?_
      unfold evs at q1
      obtain ⟨d', ed, q2⟩ := mk_some (show Pst X.K XT (WAt W σ) G F1 m1 (mk n (bltH (.isi ts) h1 [d]) h1) (ZV X.K Q) from q1)
      obtain ⟨k, ek, e3⟩ := Option.map_eq_some_iff.mp (show (isiH h1 d ts).map D.bl = some d' from ed)
      subst e3
      exact ⟨G, F1, m1, h1, d, k, rl1, r1, ek, by cases n <;> exact q2⟩
    unfold ckTy at ht
    split at ht
    · rename_i y py
      split at ht
      · rename_i t
        simp only [Bool.and_eq_true, decide_eq_true_eq] at ht
        obtain ⟨⟨⟨k1, k2⟩, k3⟩, k4⟩ := ht
        have s2 : (backTo pos (starEach [Expr.Name y py] X.env)).any (·.1) = false := rfl
        refine (pe_callB call_isi (gl_of g h1) (g.bl _ h4) hb (pa_cons hp (pa_cons (pe_ty g k1 k2 k3 k4) pa_nil) s1) (nm_of h2).2 (nm_of h2).1.1 s1 s2).imp fun σ H Q q => ?_
        obtain ⟨G, F, m, h, ρ, rl, er, q⟩ := start q
        refine ⟨G, F, m, h, ρ, rl, er, q.mono fun F' m' h' H' d x rl' qq v rv => ?_⟩
        obtain ⟨G, F, m, h, d, k, rl, r, ek, q⟩ := qq v rv
        obtain ⟨t', ty, _, one⟩ := isi_of rl r ek
        exact ⟨v, .ty (tyN t), t', .type (tyN t), k, rfl, .ty _, ty, one t rfl, q.ok rl _ mk_bl⟩
      · simp at ht
    · rename_i es' k' p'
      have s2 : (backTo pos (starEach [Expr.Tuple es' k' p'] X.env)).any (·.1) = false := rfl
      refine (pe_callB call_isiT (gl_of g h1) (g.bl _ h4) hb (pa_cons hp (pa_cons (pe_tup (pa_tys g (by simp only [Bool.and_eq_true] at ht; exact ht.2))) pa_nil) s1) (nm_of h2).2 (nm_of h2).1.1 s1 s2).imp fun σ H Q q => ?_
      simp only [Bool.and_eq_true, decide_eq_true_eq] at ht
      obtain ⟨G, F, m, h, ρ, rl, er, q⟩ := start q
      refine ⟨G, F, m, h, ρ, rl, er, q.mono fun F' m' h' H' d x rl' qq v rv => ?_⟩
      obtain ⟨G, F, m, h, d, k, rl, r, ek, q⟩ := qq v rv
      refine tCs_ok _ ⟨?_, fun p np => ?_⟩
      · have hl : (ts.map fun t => V.ty (tyN t)).length ≤ 100 := by rw [List.length_map]; exact ht.1
        exact Nat.le_trans hl (by decide)
      · obtain ⟨rl2, x2⟩ := rl.newF (o := .tup (ts.map fun t => V.ty (tyN t))) np
        obtain ⟨t', ty, all, _⟩ := isi_of rl2 (Rp.mono x2 _ _ r) ek
        exact ⟨v, p, _, t', _, k, rfl, upd_same, cls_all ts, ty, all, (q.ext x2).ok rl2 _ mk_bl⟩
    · cases ht

/-! ### methods -/
def idM : Mth → String
  | .append => "list.append" | .clear => "list.clear" | .pop => "list.pop" | .extend => "list.extend" | .join => "str.join" | .insert => "list.insert" | .reverse => "list.reverse" | .endswith => "str.endswith"
def tyM : Mth → String
  | .join => "str"
  | .endswith => "str"
  | _ => "list"
theorem m_all : ∀ m : Mth, MtR X (idM m) (rM X.K XT m)
  | .append => m_append | .clear => m_clear | .pop => m_pop | .extend => m_extend | .join => m_join | .insert => m_insert | .reverse => m_reverse | .endswith => m_endswith
theorem m_pa : ∀ m : Mth, PlainAttrs (tyM m)
  | .append => PySem.F.plainAttrs_list | .clear => PySem.F.plainAttrs_list | .pop => PySem.F.plainAttrs_list | .extend => PySem.F.plainAttrs_list | .join => PySem.F.plainAttrs_str | .insert => PySem.F.plainAttrs_list | .reverse => PySem.F.plainAttrs_list | .endswith => PySem.F.plainAttrs_str
theorem m_slot : ∀ m : Mth, Slot (tyM m) (mthNm m) (idM m)
  | .append => PySem.F.slot_list_append | .clear => PySem.F.slot_list_clear | .pop => PySem.F.slot_list_pop | .extend => PySem.F.slot_list_extend | .join => PySem.F.slot_str_join | .insert => PySem.F.slot_list_insert | .reverse => PySem.F.slot_list_reverse | .endswith => PySem.F.slot_str_endswith
theorem m_type : ∀ m : Mth, typeOf (.builtin (idM m)) = pure (.type "method_descriptor")
  | .append => PySem.F.type_list_append | .clear => PySem.F.type_list_clear | .pop => PySem.F.type_list_pop | .extend => PySem.F.type_list_extend | .join => PySem.F.type_str_join | .insert => PySem.F.type_list_insert | .reverse => PySem.F.type_list_reverse | .endswith => PySem.F.type_str_endswith
theorem rcv_ok {K : PySem.W.Frag} {G F : Hp} {m : List Addr} {h : Hea} {H : Hp} {mm : Mth} {d : D} {v : V} (rl : Rel K G F m h H) (r : Rp K F m d v) (e : rcv mm h d = true) : tyV K (tyM mm) v H := by
  have lst : ∀ {a : Nat}, d = .ref a → (match get h a with | some (.lst _) => true | _ => false) = true → tyV K "list" v H := fun {a} ed e9 => by
    subst ed
    cases hc : MP.get h a with
    | none => rw [hc] at e9; cases e9
    | some c =>
      rw [hc] at e9
      cases c with
      | lst ds =>
        obtain ⟨p, vs, rfl, _, _, e1, _, _⟩ := cell_lst rl r hc
        exact .inl ⟨rfl, vs, .inl (.inl e1)⟩
      | _ => cases e9
  cases mm with
  | join =>
    cases d with
    | str x => rw [rp_str r]; rfl
    | _ => cases e
  | endswith =>
    cases d with
    | str x => rw [rp_str r]; rfl
    | _ => cases e
  | _ =>
    cases d with
    | ref a => exact lst rfl e
    | _ => cases e
theorem base_of {o : Expr} {x : Str} {env : PySem.Env} {w : Sem Value} (h : noSup o = true) : attributeBase o x env w = w := by
  cases o with
  | Call f args kws p =>
    cases f with
    | Name y q =>
      cases args with
      | nil =>
        cases kws with
        | nil => cases h
        | cons _ _ => rfl
      | cons _ _ => rfl
    | _ => rfl
  | _ => rfl
theorem n_mth (g : Gd T XT N X C bs sc W) {n : Bool} {mm : Mth} {x : Str} {ap cp : Pos} (h1 : x = mthNm mm) (h2 : (ap.endLine == cp.line) = true) (h3 : noSup ea = true) (h4 : l.length < 20) (ha : PE X ea (tE X.K XT C W a)) (hes : AllE X XT C W es l) :
    PE X (.Call (.Attribute ea x ap) l [] cp) (tE X.K XT C W (.mth n mm a es)) := by
  have hb := base_of (x := x) (env := X.env) (w := eval ea X.env) h3
  have hst := hes.star
  have go : ∀ (σ : Stt) (H : Hp) (Q : VK), tE X.K XT C W (.mth n mm a es) σ H Q → tE X.K XT C W a σ H fun v H1 => tyV X.K (tyM mm) v H1 ∧ tEs X.K XT C W es σ H1 fun xs H2 => rM X.K XT mm v xs H2 Q := fun σ H Q ⟨G, F, m, h, ρ, rl, er, q⟩ => by
    unfold ev at q
    refine tE.bnd rl er q fun F1 m1 h1 H1 d v x1 rl1 er1 r1 q1 => ?_
    by_cases hr : rcv mm h1 d = true
    · rw [if_pos hr] at q1
      refine ⟨rcv_ok rl1 r1 hr, tEs.bnd rl1 er1 q1 fun F2 m2 h2 H2 ds vs x2 rl2 er2 r2 q2 => ?_⟩
      exact ⟨G, F2, m2, h2, _, d, ds, rl2, Rp.mono x2 _ _ r1, r2, q2⟩
    · rw [if_neg hr] at q1; exact q1.elim
  subst h1
  cases l with
  | nil =>
    cases hes
    refine (pe_bm0 (m_pa mm) (m_slot mm) (m_type mm) (m_all (XT := XT) mm) ha hb h2).imp fun σ H Q q => ?_
    obtain ⟨G, F, m, h, ρ, rl, er, q⟩ := go σ H Q q
    refine ⟨G, F, m, h, ρ, rl, er, q.mono fun F' m' h' H' d x rl' qq v rv => ?_⟩
    obtain ⟨ty, G2, F2, m2, h2, ρ2, rl2, er2, q2⟩ := qq v rv
    unfold evs at q2
    exact ⟨ty, q2.ok rl2 [] .mk0⟩
  | cons e l =>
    have s1 := star1 (env := X.env) (es := l) (hst _ List.mem_cons_self)
    have s2 := star_no (env := X.env) (pos := cp) fun z hz => hst z (List.mem_cons_of_mem _ hz)
    have s3 := star_all (env := X.env) (pos := cp) hst
    refine (pe_bm (m_pa mm) (m_slot mm) (m_type mm) (m_all (XT := XT) mm) ha hes.pa hb ?_ h2 s1 s2).imp go
    rw [s3]
    show (true && true && decide ((e :: l).length + 0 + 0 < 30)) = true
    rw [decide_eq_true (by omega)]; rfl
end
end MP

set_option maxHeartbeats 1000000
/-! What is walked, targets, comprehensions; every expression. -/
namespace MP
open PySem PySem.Spec PyProof.Rows L2

def W0 : WX := fun _ _ _ _ => False
section
variable {T : Tab} {XT : List Value} {N : List Str} {X : Cx} {C : CT} {bs : Option Scope} {sc : Scope} {W : WX} {pos : Pos} {a b c : Ex} {ea eb ec tge : Expr} {l : List Expr} {es : Exs}
theorem n_iv (ha : PE X ea (tE X.K XT C W a)) : PI X tge ea (tI X.K XT C W (.val a)) := by
  refine (pi_seq ha).imp fun σ H R ⟨G, F, m, h, ρ, rl, er, q⟩ => ?_
  unfold evi at q
  refine tE.bnd rl er q fun F1 m1 h1 H1 d v x1 rl1 er1 r1 q1 => ?_
  obtain ⟨w, ew, q2⟩ := lift_inv rl1 q1
  obtain ⟨p, rfl, hw⟩ := walk_seq rl1 r1 ew
  refine ⟨p, rfl, ?_⟩
  rcases hw with ⟨xs, hs, j⟩ | ⟨xs, hs, j⟩
  · exact .inl ⟨xs, hs, q2 _ j⟩
  · exact .inr ⟨xs, hs, q2 _ j⟩
theorem n_trg (g : Gd T XT N X C bs sc W) {x y : Str} {p p2 : Pos} {pos2 : Pos} (h1 : gloB sc x = true) (h2 : x = "tuple") (h3 : T.blts.contains x = true) (h4 : gloB sc y = true) (h5 : y = "range") (h6 : T.blts.contains y = true) (hs : noStar ea = true) (ha : PE X ea (tE X.K XT C W a)) : PE X (.Call (.Name x p) [.Call (.Name y p2) [ea] [] pos2] [] pos) (tE X.K XT C W (.trg a)) := by
  subst h2 h5
  refine (pe_tupRg g.calm (gl_of g h1) (g.bl _ h3) (prg_1 (gl_of g h4) (g.bl _ h6) ha (star1 (es := []) hs)) rfl).imp fun σ H Q ⟨G, F, m, h, ρ, rl, er, q⟩ => ?_
  unfold ev at q
  refine tE.bnd rl er q fun F1 m1 h1 H1 d v x1 rl1 er1 r1 q1 => ?_
  cases d with
  | int n =>
    by_cases hz : 0 ≤ n ∧ n ≤ 16777216
    · have q1 : Pst X.K XT _ G F1 m1 (if 0 ≤ n ∧ n ≤ 16777216 then mk false (some (.tup ((List.range n.toNat).map fun (i : Nat) => .int (i : Int)))) h1 else .stuck) _ := q1
      rw [if_pos hz] at q1
      refine ⟨n, rp_int r1, RgOk.of_le (by omega) hz.2 (by omega) hz.1, fun p np => new_tup (n := false) rl1 q1 ?_ np⟩
      unfold rgV
      rw [Int.sub_zero]
      generalize List.range n.toNat = L
      induction L with
      | nil => rfl
      | cons i L ih => exact ⟨.int (0 + (i : Nat)), _, rfl, by show V.int _ = V.int _; rw [Int.zero_add], ih⟩
    · have q1 : Pst X.K XT _ G F1 m1 (if 0 ≤ n ∧ n ≤ 16777216 then mk false (some (.tup ((List.range n.toNat).map fun (i : Nat) => .int (i : Int)))) h1 else .stuck) _ := q1
      rw [if_neg hz] at q1; exact q1.elim
  | _ => exact q1.elim
theorem n_rng (g : Gd T XT N X C bs sc W) {x : Str} {p : Pos} (h1 : gloB sc x = true) (h2 : x = "range") (h3 : T.blts.contains x = true) (hs : noStar ea = true) (ha : PE X ea (tE X.K XT C W a)) : PI X tge (.Call (.Name x p) [ea] [] pos) (tI X.K XT C W (.rng a)) := by
  subst h2
  refine (pi_range1 (gl_of g h1) (g.bl _ h3) (pa_cons ha pa_nil (star1 hs)) (star1 hs)).imp fun σ H R ⟨G, F, m, h, ρ, rl, er, q⟩ => ?_
  unfold evi at q
  refine tE.bnd rl er q fun F1 m1 h1 H1 d v x1 rl1 er1 r1 q1 => ?_
  obtain ⟨w, ew, q2⟩ := lift_inv rl1 q1
  cases d with
  | int j =>
    obtain ⟨_, k2, j3⟩ := walk_rng (K := X.K) (F := F1) (m := m1) ew
    rw [Int.sub_zero] at j3
    exact ⟨j, by rw [rp_int r1], (R62_ok k2).1, (R62_ok k2).2, q2 _ j3⟩
  | _ => cases ew
theorem n_rng2 (g : Gd T XT N X C bs sc W) {x : Str} {p : Pos} (h1 : gloB sc x = true) (h2 : x = "range") (h3 : T.blts.contains x = true) (hs : noStar ea = true) (hs' : noStar eb = true) (ha : PE X ea (tE X.K XT C W a)) (hb : PE X eb (tE X.K XT C W b)) :
    PI X tge (.Call (.Name x p) [ea, eb] [] pos) (tI X.K XT C W (.rng2 a b)) := by
  subst h2
  refine (pi_range2 (gl_of g h1) (g.bl _ h3) (pa_cons ha (pa_cons hb pa_nil (star1 hs')) (star1 hs)) (by rw [star1 hs, star1 hs']; rfl) (star1 hs')).imp fun σ H R ⟨G, F, m, h, ρ, rl, er, q⟩ => ?_
  unfold evi at q
  refine tE.bnd rl er q fun F1 m1 h1 H1 d v x1 rl1 er1 r1 q1 => ?_
  refine tE.bnd rl1 er1 q1 fun F2 m2 h2 H2 d' v' x2 rl2 er2 r2 q2 => ?_
  obtain ⟨w, ew, q3⟩ := lift_inv rl2 q2
  cases d with
  | int i =>
    cases d' with
    | int j =>
      obtain ⟨k1, k2, j3⟩ := walk_rng (K := X.K) (F := F2) (m := m2) ew
      exact ⟨i, j, by rw [rp_int r1, rp_int r2], ⟨(R62_ok k1).1, (R62_ok k1).2, (R62_ok k2).1, (R62_ok k2).2⟩, q3 _ j3⟩
    | _ => cases ew
  | _ => cases ew

theorem n_zip (g : Gd T XT N X C bs sc W) {x : Str} {p : Pos} {elts : List Expr} {kk : Nat} {tpos : Pos} (h1 : gloB sc x = true) (h2 : x = "zip") (h3 : T.blts.contains x = true) (hs : noStar ea = true) (hs' : noStar eb = true) (ha : PE X ea (tE X.K XT C W a)) (hb : PE X eb (tE X.K XT C W b)) :
    PI X (.Tuple elts kk tpos) (.Call (.Name x p) [ea, eb] [] pos) (tI X.K XT C W (.zip a b)) := by
  subst h2
  refine (pi_zm (gl_of g h1) (g.bl _ h3) (pa_cons ha (pa_cons hb pa_nil (star1 hs')) (star1 hs)) (star1 hs) (star_no fun z hz => by simp at hz; subst hz; exact hs')).imp fun σ H R ⟨G, F, m, h, ρ, rl, er, q⟩ => ?_
  unfold evi at q
  refine tE.bnd rl er q fun F1 m1 h1 H1 d v x1 rl1 er1 r1 q1 => ?_
  refine tE.bnd rl1 er1 q1 fun F2 m2 h2 H2 d' v' x2 rl2 er2 r2 q2 => ?_
  obtain ⟨w, ew, q3⟩ := lift_inv rl2 q2
  obtain ⟨a, b, xs, ys, t, u, rfl, rfl, s1, s2, j⟩ := walk_zip (Rp.mono x2 _ _ r1) r2 ew
  exact ⟨a, b, xs, ys, rfl, t, u, sqm_mono rl2.sub s1, sqm_mono rl2.sub s2, q3 _ j⟩

theorem n_enu (g : Gd T XT N X C bs sc W) {x : Str} {p : Pos} {elts : List Expr} {kk : Nat} {tpos : Pos} (h1 : gloB sc x = true) (h2 : x = "enumerate") (h3 : T.blts.contains x = true) (hs : noStar ea = true) (ha : PE X ea (tE X.K XT C W a)) :
    PI X (.Tuple elts kk tpos) (.Call (.Name x p) [ea] [] pos) (tI X.K XT C W (.enu a)) := by
  subst h2
  refine (pi_en (gl_of g h1) (g.bl _ h3) (pa_cons ha pa_nil (star1 hs)) (star1 hs)).imp fun σ H R ⟨G, F, m, h, ρ, rl, er, q⟩ => ?_
  unfold evi at q
  refine tE.bnd rl er q fun F1 m1 h1 H1 d v x1 rl1 er1 r1 q1 => ?_
  obtain ⟨w, ew, q3⟩ := lift_inv rl1 q1
  obtain ⟨a, xs, rfl, hw⟩ := walk_num r1 ew
  refine ⟨a, xs, rfl, ?_⟩
  rcases hw with ⟨J, rfl, s1, j⟩ | ⟨J, rfl, s1, j⟩
  · exact .inl ⟨SqL.mono rl1.sub s1, q3 _ j⟩
  · exact .inr ⟨SqT.mono rl1.sub s1, q3 _ j⟩
/-! ### targets -/
theorem tgs_ok (g : Gd T XT N X C bs sc W) : ∀ {is : List Nat} {es : List Expr}, ckTgs N bs sc is es = true → PGs X es (gAll is) ∧ (assignEach es X.env).length = is.length ∧ (assignEach es X.env).findIdx? (·.1) = none
  | [], [], _ => ⟨pgs_nil, rfl, rfl⟩
  | i :: is, .Name x p :: es, h => by
    unfold ckTgs at h
    simp only [Bool.and_eq_true, decide_eq_true_eq] at h
    obtain ⟨⟨h1, h2⟩, h3⟩ := h
    obtain ⟨k1, k2, k3⟩ := tgs_ok g h3
    refine ⟨pgs_cons (pg_name g.nd (ix_of g h1) (g.tgt x h2).1 (g.tgt x h2).2) k1, ?_, ?_⟩
    · show (assignEach es X.env).length + 1 = is.length + 1
      rw [k2]
    · show List.findIdx? (·.1) ((false, _) :: assignEach es X.env) = none
      rw [List.findIdx?_cons, k3]; rfl
  | [], _ :: _, h => by unfold ckTgs at h; cases h
  | _ :: _, [], h => by unfold ckTgs at h; cases h
theorem n_tg (g : Gd T XT N X C bs sc W) {tg : Tg} {e : Expr} (h : ckTg N bs sc tg e = true) : PG X e (gT X.K tg) := by
  unfold ckTg at h
  split at h
  · simp only [Bool.and_eq_true, decide_eq_true_eq] at h
    exact pg_name g.nd (ix_of g h.1) (g.tgt _ h.2).1 (g.tgt _ h.2).2
  · obtain ⟨k1, k2, k3⟩ := tgs_ok g h
    exact pg_tup g.calm k1 k2 k3
  · cases h

theorem many_tup {tg : Tg} {e : Expr} (hm : isMany tg = true) (h : ckTg N bs sc tg e = true) : ∃ elts k p, e = .Tuple elts k p := by
  unfold ckTg at h
  split at h
  · cases hm
  · exact ⟨_, _, _, rfl⟩
  · cases h
/-! ### comprehensions -/
theorem wipe_set : ∀ {vs : List Nat} {σ : Stt} {i : Nat} {o : Option V}, i ∈ vs → wipe (σ.set i o) vs = wipe σ vs
  | [], _, _, _, h => by simp at h
  | v :: vs, σ, i, o, h => by
    unfold wipe
    by_cases hv : i ∈ vs
    · rw [wipe_set hv]
    · have e : i = v := by
        rcases List.mem_cons.mp h with h | h
        · exact h
        · exact absurd h hv
      subst e
      apply List.ext_getElem?
      intro j
      by_cases hj : i = j
      · subst hj
        by_cases hl : i < σ.length
        · rw [List.getElem?_set_self (by rw [wipe_length, List.length_set]; exact hl), List.getElem?_set_self (by rw [wipe_length]; exact hl)]
        · rw [List.getElem?_eq_none (by rw [List.length_set, wipe_length, List.length_set]; omega), List.getElem?_eq_none (by rw [List.length_set, wipe_length]; omega)]
      · rw [List.getElem?_set_ne hj, List.getElem?_set_ne hj]
        by_cases hj2 : j ∈ vs
        · have key : ∀ {τ : Stt} {ws : List Nat}, j ∈ ws → (wipe τ ws)[j]? = if j < τ.length then some none else none := by
            intro τ ws
            induction ws with
            | nil => intro z; simp at z
            | cons w ws ih =>
              intro z
              unfold wipe
              by_cases hw : w = j
              · subst hw
                by_cases hl : w < τ.length
                · rw [List.getElem?_set_self (by rw [wipe_length]; exact hl), if_pos hl]
                · rw [List.getElem?_eq_none (by rw [List.length_set, wipe_length]; omega), if_neg hl]
              · rw [List.getElem?_set_ne hw]
                rcases List.mem_cons.mp z with z | z
                · exact absurd z.symm hw
                · exact ih z
          rw [key hj2, key hj2, List.length_set]
        · rw [wipe_out hj2, wipe_out hj2, List.getElem?_set_ne hj]
theorem wipe_wipe : ∀ {vs : List Nat} {σ : Stt}, wipe (wipe σ vs) vs = wipe σ vs := by
  have : ∀ {ws vs : List Nat} {σ : Stt}, (∀ i ∈ ws, i ∈ vs) → wipe (wipe σ ws) vs = wipe σ vs := by
    intro ws
    induction ws with
    | nil => intro vs σ _; rfl
    | cons w ws ih =>
      intro vs σ hs
      show wipe ((wipe σ ws).set w none) vs = _
      rw [wipe_set (hs w List.mem_cons_self)]
      exact ih fun i hi => hs i (List.mem_cons_of_mem _ hi)
  intro vs σ
  exact this fun _ h => h
theorem gAll_wipe : ∀ {is own : List Nat} {vs : List V} {σ : Stt} {H : Hp} {Q : Stt → Hp → Prop}, is.all own.contains = true → gAll is vs σ H Q → gAll is vs σ H fun σ2 H2 => wipe σ2 own = wipe σ own ∧ Q σ2 H2
  | [], _, _, _, _, _, _, q => ⟨q.1, rfl, q.2⟩
  | i :: is, own, vs, σ, H, Q, h, q => by
    rw [List.all_cons, Bool.and_eq_true] at h
    obtain ⟨v, w, rfl, q⟩ := q
    have q : gAll is w (σ.set i (some v)) H Q := q
    refine ⟨v, w, rfl, ?_⟩
    have := gAll_wipe h.2 q
    rw [wipe_set (List.contains_iff_mem.mp h.1)] at this
    exact this
theorem gT_wipe {K : PySem.W.Frag} {tg : Tg} {own : List Nat} {x : V} {σ : Stt} {H : Hp} {Q : Stt → Hp → Prop} (h : tgIn own tg = true) (q : gT K tg x (wipe σ own) H Q) : gT K tg x (wipe σ own) H fun σ2 H2 => wipe σ2 own = wipe σ own ∧ Q σ2 H2 := by
  cases tg with
  | one i =>
    have h : own.contains i = true := h
    exact ⟨by rw [wipe_set (List.contains_iff_mem.mp h), wipe_wipe], q⟩
  | many is =>
    obtain ⟨a, xs, e, s, hl, q⟩ := q
    refine ⟨a, xs, e, s, hl, ?_⟩
    have := gAll_wipe (own := own) h q
    rw [wipe_wipe] at this
    exact this
theorem nox_bnd {K : PySem.W.Frag} {W W' : Value → Option Addr → Hp → Prop} {G F : Hp} {m : List Addr} {α β : Type} {r : R α} {f : α → Hea → R β} {Z : Hp → List Addr → Hea → Hp → β → Prop} (p : Pst K XT W G F m (r.nox.bnd f) Z) :
    Pst K XT W' G F m r (fun F' m' h' _ a => Pst K XT W G F' m' (f a h') Z) := by
  cases r with
  | ok a h' => exact fun F' m' H' x rl => Pst.ext x p
  | ex x h' => exact p.elim
  | stuck => exact p.elim
theorem upd_id {H : Hp} {p : Addr} {o : HO} (e : H p = some o) : upd H p o = H := by
  funext q
  by_cases h : q = p
  · rw [h, upd_same, e]
  · rw [upd_ne h]
def tC1 (K : PySem.W.Frag) (XT : List Value) (C : CT) : OEx → TT
  | .none => tYes
  | .some e => tT K XT C W0 e
def cnO (C : CT) (co : OEx) : Env → Hea → R Bool := fun ρ h => match co with
  | .none => .ok true h
  | .some e => (tr C e ρ h).nox
theorem lc_imp {K : PySem.W.Frag} {n : Bool} {el : Ex} {tg : Tg} {it : It} {co : OEx} {own : List Nat} (ht : tgIn own tg = true) (σ : Stt) (H : Hp) (Q : VK) :
    tE K XT C W (.lc n el tg it co own) σ H Q → tLc (tI K XT C W it) (gT K tg) (tC1 K XT C co) (tE K XT C W0 el) own σ H Q := fun ⟨G, F, m, h, ρ, rl, er, q⟩ => by
  unfold ev at q
  refine ⟨G, F, m, h, ρ, rl, er, q.bnd.mono fun F1 m1 h1 H1 w x1 rl1 q1 J hJ => ?_⟩
  intro D nD
  have gn := (rl1.out nD).2.2
  have er1 := er.mono x1
  have q2 : Pst K XT (WAt W σ) G F1 m1 (lcL (fun ρ h => (ev C el ρ h).nox) (cnO C co) tg (wipeE ρ own) w.fin w.its [] h1) (fun F' m' h' _ ds => Pst K XT (WAt W σ) G F' m' (mk n (some (.lst ds)) h') (ZV K Q)) := by
    have := q1.bnd
    cases co <;> exact this
  refine ⟨fun i k H' => i + k = w.its.length ∧ ∃ F' m' h' acc vacc, Ext F1 m1 F' m' ∧ Rel K (upd G D (.lst vacc)) F' m' h' H' ∧ Rps K F' m' acc vacc ∧
    Pst K XT (WAt W σ) G F' m' (lcL (fun ρ h => (ev C el ρ h).nox) (cnO C co) tg (wipeE ρ own) w.fin (w.its.drop i) acc h') (fun F' m' h' _ ds => Pst K XT (WAt W σ) G F' m' (mk n (some (.lst ds)) h') (ZV K Q)),
    ⟨w.its.length, by omega, F1, m1, h1, [], [], .refl, rl1.upG (rl1.out nD).1 (rl1.out nD).2.1, .mk0, q2⟩, ?_⟩
  rintro i k H' ⟨hk, F', m', h', acc, vacc, x', rl', ra, q'⟩
  cases k with
  | zero =>
    have hd : w.its.drop i = [] := List.drop_eq_nil_of_le (by omega)
    rw [hd] at q'
    unfold lcL at q'
    split at q'
    · rename_i hf
      left
      have st := (hJ _ _ _ _ _ x' rl').2 hf
      refine ⟨by rw [show i = w.its.length by omega]; exact st, ?_⟩
      have q'' := Pst.ok q' (rl'.wk (sub_upd gn))
      have := own_lst rl' gn q'' ra
      rw [upd_id (rl'.kp D _ upd_same).1] at this
      exact this
    · exact q'.elim
  | succ k =>
    right
    have hi' : i < w.its.length := by omega
    have hd : w.its.drop i = w.its[i] :: w.its.drop (i + 1) := List.drop_eq_getElem_cons hi'
    rw [hd] at q'
    unfold lcL at q'
    cases e1 : itm h' w.its[i] with
    | none => simp only [e1] at q'; exact q'.elim
    | some d =>
      simp only [e1] at q'
      cases e2 : bindT h' tg d (wipeE ρ own) with
      | none => simp only [e2] at q'; exact q'.elim
      | some ρ' =>
        simp only [e2] at q'
        obtain ⟨go, yl⟩ := (hJ _ _ _ _ _ x' rl').1 i _ d (List.getElem?_eq_getElem hi') e1
        refine ⟨go, fun H2 => ∃ k', k' < k + 1 ∧ (i + 1 + k' = w.its.length ∧ ∃ F' m' h' acc vacc, Ext F1 m1 F' m' ∧ Rel K (upd G D (.lst vacc)) F' m' h' H2 ∧ Rps K F' m' acc vacc ∧
          Pst K XT (WAt W σ) G F' m' (lcL (fun ρ h => (ev C el ρ h).nox) (cnO C co) tg (wipeE ρ own) w.fin (w.its.drop (i + 1)) acc h') (fun F' m' h' _ ds => Pst K XT (WAt W σ) G F' m' (mk n (some (.lst ds)) h') (ZV K Q))), fun H2 hh => hh, fun x H2 hy => ?_⟩
        obtain ⟨F2, x2, rl2, r2⟩ := yl x H2 hy
        have er2 : Er K F2 m' (wipeE ρ own) (wipe σ own) := ((er1.mono x').mono x2).wipe own
        refine gT_wipe ht (bindT_ok rl2 er2 r2 e2 fun σ' er' => ?_)
        have q3 := Pst.ext x2 q'
        have fin : ∀ F3 m3 h3 H3 (bb : Bool), Ext F2 m' F3 m3 → Rel K (upd G D (.lst vacc)) F3 m3 h3 H3 → Er K F3 m3 ρ' σ' →
            Pst K XT (WAt W σ) G F3 m3 (if bb = true then (ev C el ρ' h3).nox.bnd fun d h => if acc.length < SL ∧ below h.length d = true then lcL (fun ρ h => (ev C el ρ h).nox) (cnO C co) tg (wipeE ρ own) w.fin (w.its.drop (i + 1)) (acc ++ [d]) h else .stuck
              else lcL (fun ρ h => (ev C el ρ h).nox) (cnO C co) tg (wipeE ρ own) w.fin (w.its.drop (i + 1)) acc h3) (fun F' m' h' _ ds => Pst K XT (WAt W σ) G F' m' (mk n (some (.lst ds)) h') (ZV K Q)) →
            (if bb = true then tE K XT C W0 el σ' H3 fun y H4 => ∃ acc, H4 D = some (.lst acc) ∧ acc.length < sizeLine ∧ (∃ k', k' < k + 1 ∧ (i + 1 + k' = w.its.length ∧ ∃ F' m' h' acc_1 vacc, Ext F1 m1 F' m' ∧ Rel K (upd G D (.lst vacc)) F' m' h' (upd H4 D (.lst (acc ++ [y]))) ∧ Rps K F' m' acc_1 vacc ∧
          Pst K XT (WAt W σ) G F' m' (lcL (fun ρ h => (ev C el ρ h).nox) (cnO C co) tg (wipeE ρ own) w.fin (w.its.drop (i + 1)) acc_1 h') (fun F' m' h' _ ds => Pst K XT (WAt W σ) G F' m' (mk n (some (.lst ds)) h') (ZV K Q))))
             else (∃ k', k' < k + 1 ∧ (i + 1 + k' = w.its.length ∧ ∃ F' m' h' acc vacc, Ext F1 m1 F' m' ∧ Rel K (upd G D (.lst vacc)) F' m' h' H3 ∧ Rps K F' m' acc vacc ∧
          Pst K XT (WAt W σ) G F' m' (lcL (fun ρ h => (ev C el ρ h).nox) (cnO C co) tg (wipeE ρ own) w.fin (w.its.drop (i + 1)) acc h') (fun F' m' h' _ ds => Pst K XT (WAt W σ) G F' m' (mk n (some (.lst ds)) h') (ZV K Q))))) := by
          intro F3 m3 h3 H3 bb x3 rl3 er3 q4
          cases bb with
          | false =>
            rw [if_neg (by decide)] at q4 ⊢
            exact ⟨k, by omega, by omega, F3, m3, h3, acc, vacc, (x'.trans x2).trans x3, rl3, Rps.mono x3 _ _ (Rps.mono x2 _ _ ra), q4⟩
          | true =>
            rw [if_pos rfl] at q4 ⊢
            refine ⟨upd G D (.lst vacc), F3, m3, h3, ρ', rl3, er3, ((nox_bnd q4).wk (sub_upd gn)).mono fun F4 m4 h4 H4 d4 x4 rl4 q5 v4 r4 => ?_⟩
            split at q5
            · rename_i hz
              refine ⟨vacc, (rl4.kp D _ upd_same).1, ?_, k, by omega, by omega, F4, m4, h4, acc ++ [d4], vacc ++ [v4], ((x'.trans x2).trans x3).trans x4, ?_, ?_, q5⟩
              · rw [← ra.len, ← SLe]; exact hz.1
              · exact (rl4.wk (sub_upd gn)).upG (rl4.kp D _ upd_same).2.1 (rl4.kp D _ upd_same).2.2
              · exact (Rps.mono x4 _ _ (Rps.mono x3 _ _ (Rps.mono x2 _ _ ra))).app (.mk r4 .mk0)
            · exact q5.elim
        cases co with
        | none =>
          unfold tC1
          exact fin F2 m' h' H2 true .refl rl2 er' q3
        | some ce =>
          unfold tC1
          exact ⟨upd G D (.lst vacc), F2, m', h', ρ', rl2, er', ((nox_bnd q3).wk (sub_upd gn)).mono fun F3 m3 h3 H3 bb x3 rl3 q4 => fin F3 m3 h3 H3 bb x3 rl3 (er'.mono x3) q4⟩
theorem n_lc (g : Gd T XT N X C bs sc W) {n : Bool} {el : Ex} {tg : Tg} {it : It} {co : OEx} {own : List Nat} {elt ite : Expr} {ifs : List Expr} {scope : Scope} (hb : blkC N sc scope (ownOf N own) = true) (ho : (ownOf N own).map (·.2) = own) (ht : tgIn own tg = true)
    (hi : PI X tge ite (tI X.K XT C W it)) (hs : ∀ x, foldedSetIterable ite X.env x = pure x)
    (hg : ∀ (s : Shared) (H : Hp) (Ca : Addr) (cl : List (Str × Addr)) (fp : List Addr), PG (X.blk s H scope (compEnvC scope cl Ca X.env) fp) tge (gT X.K tg))
    (hc : ∀ (s : Shared) (H : Hp) (Ca : Addr) (cl : List (Str × Addr)) (fp : List Addr), PTs (X.blk s H scope (compEnvC scope cl Ca X.env) fp) ifs (tC1 X.K XT C co))
    (he : ∀ (s : Shared) (H : Hp) (Ca : Addr) (cl : List (Str × Addr)) (fp : List Addr), PE (X.blk s H scope (compEnvC scope cl Ca X.env) fp) elt (tE X.K XT C W0 el)) :
    PE X (.ListComp elt [⟨tge, ite, ifs, 0⟩] scope pos) (tE X.K XT C W (.lc n el tg it co own)) := by
  have ok : BlkOk X.N X.env.scope scope (ownOf N own) := blkOk_by (by rw [g.N, g.scp]; exact hb)
  refine (pe_lc g.calm g.nd hi ok hg hc he hs).imp fun σ H Q q => ?_
  rw [ho]
  exact lc_imp ht σ H Q q
theorem n_c1 {co : OEx} {ifs : List Expr} (h : match co, ifs with | .none, [] => True | .some e, [i] => PT X i (tT X.K XT C W0 e) | _, _ => False) : PTs X ifs (tC1 X.K XT C co) := by
  cases co with
  | none =>
    cases ifs with
    | nil => exact pts_nil
    | cons _ _ => exact h.elim
  | some e =>
    cases ifs with
    | nil => exact h.elim
    | cons i r =>
      cases r with
      | nil => exact pts_one h
      | cons _ _ => exact h.elim
theorem gd_blk (g : Gd T XT N X C bs sc W) {scope : Scope} {own : List (Str × Nat)} (hb : blkC N sc scope own = true) (s : Shared) (H : Hp) (Ca : Addr) (cl : List (Str × Addr)) (fp : List Addr) :
    Gd T XT N (X.blk s H scope (compEnvC scope cl Ca X.env) fp) C (some scope) (relS scope sc) W0 := by
  have hsc : (compEnvC scope cl Ca X.env).scope = relS scope sc := by rw [← g.scp]; rfl
  refine ⟨g.N, g.nd, g.calm, hsc, fun x hx => ?_, g.bl, fun x k hk => ⟨(g.fn x k hk).ok⟩, g.cs, g.hu, g.gd, takes0⟩
  have hx : locB scope x = true := hx
  unfold L2.Loc
  show ((compEnvC scope cl Ca X.env).scope.names.lookup x = _ ∨ (compEnvC scope cl Ca X.env).scope.names.lookup x = _) ∧ ((scope.names.lookup x == some .cell) = true ∨ (compEnvC scope cl Ca X.env).scope.names.lookup x = _)
  rw [hsc]
  unfold locB at hx
  split at hx
  · rename_i e
    have := lookup_relS_keep (sc := sc) (by decide) e
    exact ⟨.inl this, .inr this⟩
  · rename_i e
    have := lookup_relS_keep (sc := sc) (by decide) e
    exact ⟨.inr this, .inl (by rw [e]; rfl)⟩
  · cases hx
theorem fold_of {e : Expr} {env : PySem.Env} (h : match e with | .Set _ _ _ => False | _ => True) : ∀ x, foldedSetIterable e env x = pure x := by
  intro x
  cases e <;> first | rfl | exact h.elim
end
end MP

set_option maxHeartbeats 4000000
/-! Every expression. -/
namespace MP
open PySem PySem.Spec PyProof.Rows L2

section
variable {T : Tab} {XT : List Value} {N : List Str} {C : CT}
/-- an expression is read as the own text says -/
structure GE (XT : List Value) (C : CT) (X : Cx) (W : WX) (ex : Ex) (e : Expr) : Prop where
  st : noStar e = true
  pe : PE X e (tE X.K XT C W ex)
  pt : PT X e (tT X.K XT C W ex)
  pw : ∀ op vs p, e = .BoolOp op vs p → PW X e (tT X.K XT C W ex)
variable {X : Cx} {bs : Option Scope} {sc : Scope} {W : WX}
theorem GE.val {ex : Ex} {e : Expr} (s : noStar e = true) (hp : PE X e (tE X.K XT C W ex)) (he : ∀ whole, isTrue e X.env whole = (do let v ← whole; standAt e.pos; holding [v] (truthy v)))
    (ht : ∀ ρ h, tr C ex ρ h = (ev C ex ρ h).bnd fun d h => lift (tru h d) h) (hw : ∀ op vs p, e ≠ .BoolOp op vs p) : GE XT C X W ex e := ⟨s, hp, pt_of hp he ht, fun _ _ _ z => absurd z (hw _ _ _)⟩
theorem GE.non {ex : Ex} {e : Expr} (s : noStar e = true) (hp : PE X e (tE X.K XT C W ex)) (ht : ∀ ρ h, tr C ex ρ h = .stuck) : GE XT C X W ex e :=
  ⟨s, hp, pt_none ht, fun _ _ _ z => ⟨fun wh pins s σ H Q I ⟨G, F, m, h, ρ, rl, er, q⟩ => by rw [ht] at q; exact q.elim⟩⟩
/-- what a comprehension's check says -/
structure LcP (T : Tab) (XT : List Value) (N : List Str) (C : CT) (X : Cx) (sc : Scope) (W : WX) (el : Ex) (tg : Tg) (it : It) (co : OEx) (own : List Nat) (elt tge ite : Expr) (ifs : List Expr) (scope : Scope) : Prop where
  hb : blkC N sc scope (ownOf N own) = true
  ho : (ownOf N own).map (·.2) = own
  ht : tgIn own tg = true
  hi : PI X tge ite (tI X.K XT C W it)
  hs : ∀ x, foldedSetIterable ite X.env x = pure x
  hg : ∀ (s : Shared) (H : Hp) (Ca : Addr) (cl : List (Str × Addr)) (fp : List Addr), PG (X.blk s H scope (compEnvC scope cl Ca X.env) fp) tge (gT X.K tg)
  hc : ∀ (s : Shared) (H : Hp) (Ca : Addr) (cl : List (Str × Addr)) (fp : List Addr), PTs (X.blk s H scope (compEnvC scope cl Ca X.env) fp) ifs (tC1 X.K XT C co)
  he : ∀ (s : Shared) (H : Hp) (Ca : Addr) (cl : List (Str × Addr)) (fp : List Addr), PE (X.blk s H scope (compEnvC scope cl Ca X.env) fp) elt (tE X.K XT C W0 el)
mutual
theorem sE : ∀ (ex : Ex) {X : Cx} {bs : Option Scope} {sc : Scope} {W : WX} {e : Expr}, Gd T XT N X C bs sc W → ckE T N ex bs sc e = true → GE XT C X W ex e
  | .cst d, X, bs, sc, W, e, g, h => by
    unfold ckE at h
    split at h <;> first | (exfalso; exact Bool.noConfusion h) | (cases ‹MP.Ex.cst d = _›) | skip
    exact .val rfl (n_cst h) (fun _ => rfl) (fun ρ h => by unfold tr ev; rfl) (fun _ _ _ z => nomatch z)
  | .nam i, X, bs, sc, W, e, g, h => by
    unfold ckE at h
    split at h <;> first | (exfalso; exact Bool.noConfusion h) | (cases ‹MP.Ex.nam i = _›) | skip
    simp only [Bool.and_eq_true, decide_eq_true_eq] at h
    refine .val rfl (n_nam g h.1.1 h.1.2 h.2) (fun _ => rfl) (fun ρ h => ?_) (fun _ _ _ z => nomatch z)
    unfold tr ev
    split <;> rfl
  | .glb i, X, bs, sc, W, e, g, h => by
    unfold ckE at h
    split at h <;> first | (exfalso; exact Bool.noConfusion h) | (cases ‹MP.Ex.glb i = _›) | skip
    simp only [Bool.and_eq_true, decide_eq_true_eq] at h
    exact .non rfl (n_glb g h.1.1 h.1.2 h.2) (fun ρ h => by unfold tr; rfl)
  | .trg a, X, bs, sc, W, e, g, h => by
    unfold ckE at h
    split at h <;> first | (exfalso; exact Bool.noConfusion h) | (cases ‹MP.Ex.trg a = _›) | skip
    simp only [Bool.and_eq_true, decide_eq_true_eq] at h
    exact .non rfl (n_trg g h.1.1.1.1 h.1.1.1.2 h.1.1.2 h.1.2.1.1 h.1.2.1.2 h.1.2.2 (sE a g h.2).st (sE a g h.2).pe) (fun ρ h => by unfold tr; rfl)
  | .bin n o a b, X, bs, sc, W, e, g, h => by
    unfold ckE at h
    split at h <;> first | (exfalso; exact Bool.noConfusion h) | (cases ‹MP.Ex.bin n o a b = _›) | skip
    simp only [Bool.and_eq_true] at h
    refine .val rfl (n_bin h.1.1 (sE a g h.1.2).pe (sE b g h.2).pe) (fun _ => rfl) (fun ρ h => ?_) (fun _ _ _ z => nomatch z)
    simp only [tr, ev, bnd_assoc]
  | .neg a, X, bs, sc, W, e, g, h => by
    unfold ckE at h
    split at h <;> first | (exfalso; exact Bool.noConfusion h) | (cases ‹MP.Ex.neg a = _›) | skip
    exact .non rfl (n_neg (sE a g h).pe) (fun ρ h => by unfold tr; rfl)
  | .cmp o a b, X, bs, sc, W, e, g, h => by
    unfold ckE at h
    split at h <;> first | (exfalso; exact Bool.noConfusion h) | (cases ‹MP.Ex.cmp o a b = _›) | skip
    simp only [Bool.and_eq_true, Bool.not_eq_true'] at h
    obtain ⟨k1, k2⟩ := n_cmp g (pos := by assumption) h.1.1.1 (sE a g h.1.1.2).pe (sE b g h.1.2).pe h.2
    exact ⟨rfl, k1, k2, fun _ _ _ z => nomatch z⟩
  | .chn o o' a b c, X, bs, sc, W, e, g, h => by
    unfold ckE at h
    split at h <;> first | (exfalso; exact Bool.noConfusion h) | (cases ‹MP.Ex.chn o o' a b c = _›) | skip
    simp only [Bool.and_eq_true, Bool.not_eq_true'] at h
    obtain ⟨⟨⟨⟨⟨h1, h2⟩, h3⟩, h4⟩, h5⟩, h6⟩ := h
    obtain ⟨k1, k2⟩ := n_chn g (pos := by assumption) h1 h2 (sE a g h3).pe (sE b g h4).pe (sE c g h5).pe h6
    exact ⟨rfl, k1, k2, fun _ _ _ z => nomatch z⟩
  | .land a b, X, bs, sc, W, e, g, h => by
    unfold ckE at h
    split at h <;> first | (exfalso; exact Bool.noConfusion h) | (cases ‹MP.Ex.land a b = _›) | skip
    rename_i v v2 vs p
    rw [Bool.and_eq_true] at h
    have ga := sE a g h.1
    have h2 := h.2
    split at h2
    · rename_i ev
      have e0 : vs = [] := by simpa using ev
      subst e0
      have gb := sE b g h2
      have pw := w_and (pos := p) ga.pt (pw_and1 gb.pt)
      exact ⟨rfl, n_and ga.pe (pe_one gb.pe), pw.pt, fun _ _ _ _ => pw⟩
    · have gb := sE b g h2
      have pw := w_and (pos := p) ga.pt (gb.pw _ _ _ rfl)
      exact ⟨rfl, n_and ga.pe gb.pe, pw.pt, fun _ _ _ _ => pw⟩
  | .lor a b, X, bs, sc, W, e, g, h => by
    unfold ckE at h
    split at h <;> first | (exfalso; exact Bool.noConfusion h) | (cases ‹MP.Ex.lor a b = _›) | skip
    rename_i v v2 vs p
    rw [Bool.and_eq_true] at h
    have ga := sE a g h.1
    have h2 := h.2
    split at h2
    · rename_i ev
      have e0 : vs = [] := by simpa using ev
      subst e0
      have gb := sE b g h2
      have pw := w_or (pos := p) ga.pt (pw_or1 gb.pt)
      exact ⟨rfl, n_or ga.pe (pe_one gb.pe), pw.pt, fun _ _ _ _ => pw⟩
    · have gb := sE b g h2
      have pw := w_or (pos := p) ga.pt (gb.pw _ _ _ rfl)
      exact ⟨rfl, n_or ga.pe gb.pe, pw.pt, fun _ _ _ _ => pw⟩
  | .lnot a, X, bs, sc, W, e, g, h => by
    unfold ckE at h
    split at h <;> first | (exfalso; exact Bool.noConfusion h) | (cases ‹MP.Ex.lnot a = _›) | skip
    have ga := sE a g h
    exact ⟨rfl, n_not ga.pe, t_not ga.pt, fun _ _ _ z => nomatch z⟩
  | .ite c a b, X, bs, sc, W, e, g, h => by
    unfold ckE at h
    split at h <;> first | (exfalso; exact Bool.noConfusion h) | (cases ‹MP.Ex.ite c a b = _›) | skip
    simp only [Bool.and_eq_true] at h
    have gc := sE c g h.1.1
    have ga := sE a g h.1.2
    have gb := sE b g h.2
    exact ⟨rfl, n_ite gc.pt ga.pe gb.pe, t_ite gc.pt ga.pt gb.pt, fun _ _ _ z => nomatch z⟩
  | .tup es, X, bs, sc, W, e, g, h => by
    unfold ckE at h
    split at h <;> first | (exfalso; exact Bool.noConfusion h) | (cases ‹MP.Ex.tup es = _›) | skip
    exact .non rfl (n_tup (sEs es g h).pa) (fun ρ h => by unfold tr; rfl)
  | .lst n es, X, bs, sc, W, e, g, h => by
    unfold ckE at h
    split at h <;> first | (exfalso; exact Bool.noConfusion h) | (cases ‹MP.Ex.lst n es = _›) | skip
    exact .non rfl (n_lst (sEs es g h).pa) (fun ρ h => by unfold tr; rfl)
  | .dic n es, X, bs, sc, W, e, g, h => by
    unfold ckE at h
    split at h <;> first | (exfalso; exact Bool.noConfusion h) | (cases ‹MP.Ex.dic n es = _›) | skip
    rw [Bool.and_eq_true, decide_eq_true_eq] at h
    have h2 := h.2
    split at h2
    · rename_i l hl
      exact .non rfl (n_dic h.1 hl (sEs es g h2)) (fun ρ h => by unfold tr; rfl)
    · cases h2
  | .idx a b, X, bs, sc, W, e, g, h => by
    unfold ckE at h
    split at h <;> first | (exfalso; exact Bool.noConfusion h) | (cases ‹MP.Ex.idx a b = _›) | skip
    simp only [Bool.and_eq_true] at h
    refine .val rfl (n_idx g h.1.1 (sE a g h.1.2).pe (sE b g h.2).pe) (fun _ => rfl) (fun ρ h => ?_) (fun _ _ _ z => nomatch z)
    simp only [tr, ev, bnd_assoc]
  | .slc n a lo hi, X, bs, sc, W, e, g, h => by
    unfold ckE at h
    split at h <;> first | (exfalso; exact Bool.noConfusion h) | (cases ‹MP.Ex.slc n a lo hi = _›) | skip
    simp only [Bool.and_eq_true] at h
    refine .val rfl (n_slc (sE a g h.1.1).pe (sO lo g h.1.2) (sO hi g h.2)) (fun _ => rfl) (fun ρ h => ?_) (fun _ _ _ z => nomatch z)
    simp only [tr, ev, bnd_assoc]
  | .cal n k es, X, bs, sc, W, e, g, h => by
    unfold ckE at h
    split at h <;> first | (exfalso; exact Bool.noConfusion h) | (cases ‹MP.Ex.cal n k es = _›) | skip
    simp only [Bool.and_eq_true, decide_eq_true_eq, Bool.not_eq_true'] at h
    obtain ⟨⟨⟨⟨h1, h2⟩, h3⟩, h4⟩, h5⟩ := h
    rename_i x px args p
    cases args with
    | nil => cases h4
    | cons a0 args =>
      refine .val rfl (n_cal g h1 h2 h3 (sEs es g h5)) (fun _ => rfl) (fun ρ h => ?_) (fun _ _ _ z => nomatch z)
      simp only [tr, ev, bnd_assoc]
  | .blt n k es, X, bs, sc, W, e, g, h => by
    have ht : ∀ ρ h, tr C (.blt n k es) ρ h = (ev C (.blt n k es) ρ h).bnd fun d h => lift (tru h d) h := fun ρ h => by
      simp only [tr, ev, bnd_assoc]
    unfold ckE at h
    split at h <;> first | (exfalso; exact Bool.noConfusion h) | (cases ‹MP.Ex.blt n k es = _›) | skip
    · simp only [Bool.and_eq_true, decide_eq_true_eq] at h
      obtain ⟨⟨⟨⟨⟨h1, h2⟩, h3⟩, h4⟩, h5⟩, h6⟩ := h
      exact .val rfl (n_isi g h1 h2 h3 h4 (sEs es g h5) h6) (fun _ => rfl) ht (fun _ _ _ z => nomatch z)
    · rename_i x px args p hne
      simp only [Bool.and_eq_true, decide_eq_true_eq, Bool.not_eq_true'] at h
      obtain ⟨⟨⟨⟨⟨⟨h0, h1⟩, h2⟩, h3⟩, h4⟩, h5⟩, h6⟩ := h
      cases args with
      | nil => cases h5
      | cons a0 args =>
        exact .val rfl (n_blt g h0 h1 h2 h3 h4 (sEs es g h6)) (fun _ => rfl) ht (fun _ _ _ z => nomatch z)
  | .mth n m r es, X, bs, sc, W, e, g, h => by
    unfold ckE at h
    split at h <;> first | (exfalso; exact Bool.noConfusion h) | (cases ‹MP.Ex.mth n m r es = _›) | skip
    simp only [Bool.and_eq_true, decide_eq_true_eq] at h
    obtain ⟨⟨⟨⟨⟨h1, h2⟩, h3⟩, h4⟩, h5⟩, h6⟩ := h
    refine .val rfl (n_mth g h1 h2 h3 h4 (sE r g h5).pe (sEs es g h6)) (fun _ => rfl) (fun ρ h => ?_) (fun _ _ _ z => nomatch z)
    simp only [tr, ev, bnd_assoc]
    congr 1
    funext x h
    split
    · simp only [bnd_assoc]
    · rfl
  | .lc n el tg it c own, X, bs, sc, W, e, g, h => by
    unfold ckE at h
    split at h <;> first | (exfalso; exact Bool.noConfusion h) | (cases ‹MP.Ex.lc n el tg it c own = _›) | skip
    rename_i elt tge ite ifs scope p
    simp only [Bool.and_eq_true, decide_eq_true_eq] at h
    obtain ⟨⟨⟨⟨⟨⟨⟨h1, h2⟩, h3⟩, hz⟩, h4⟩, h5⟩, h6⟩, h7⟩ := h
    obtain ⟨k1, k2⟩ := sI it g (tge := tge) (fun z => many_tup (by rw [z] at hz; exact hz) h5) h4
    refine .non rfl (n_lc g h1 h2 h3 k1 k2 (fun s H Ca cl fp => n_tg (gd_blk g h1 s H Ca cl fp) h5) (fun s H Ca cl fp => n_c1 ?_) (fun s H Ca cl fp => (sE el (gd_blk g h1 s H Ca cl fp) h6).pe)) (fun ρ h => by unfold tr; rfl)
    cases c with
    | none =>
      cases ifs with
      | nil => trivial
      | cons _ _ => cases h7
    | some ce =>
      cases ifs with
      | nil => cases h7
      | cons i r =>
        cases r with
        | nil => exact (sE ce (gd_blk g h1 s H Ca cl fp) h7).pt
        | cons _ _ => cases h7
theorem sEs : ∀ (es : Exs) {X : Cx} {bs : Option Scope} {sc : Scope} {W : WX} {l : List Expr}, Gd T XT N X C bs sc W → ckEs T N es bs sc l = true → AllE X XT C W es l
  | .nil, X, bs, sc, W, l, g, h => by
    unfold ckEs at h
    split at h <;> first | (exfalso; exact Bool.noConfusion h) | (cases ‹MP.Exs.nil = _›) | skip
    exact .nil
  | .cons a es, X, bs, sc, W, l, g, h => by
    unfold ckEs at h
    split at h <;> first | (exfalso; exact Bool.noConfusion h) | (cases ‹MP.Exs.cons a es = _›) | skip
    rw [Bool.and_eq_true] at h
    have ga := sE a g h.1
    exact .cons ga.pe ga.st (sEs es g h.2)
theorem sO : ∀ (o : OEx) {X : Cx} {bs : Option Scope} {sc : Scope} {W : WX} {l : Option Expr}, Gd T XT N X C bs sc W → ckO T N o bs sc l = true → PO X l (tO X.K XT C W o)
  | .none, X, bs, sc, W, l, g, h => by
    unfold ckO at h
    split at h <;> first | (exfalso; exact Bool.noConfusion h) | (cases ‹MP.OEx.none = _›) | skip
    exact n_ono
  | .some a, X, bs, sc, W, l, g, h => by
    unfold ckO at h
    split at h <;> first | (exfalso; exact Bool.noConfusion h) | (cases ‹MP.OEx.some a = _›) | skip
    exact n_oso (sE a g h).pe
theorem sI : ∀ (it : It) {X : Cx} {bs : Option Scope} {sc : Scope} {W : WX} {l tge : Expr}, Gd T XT N X C bs sc W → (isZ it = true → ∃ elts k p, tge = .Tuple elts k p) → ckI T N it bs sc l = true → PI X tge l (tI X.K XT C W it) ∧ ∀ x, foldedSetIterable l X.env x = pure x
  | .val a, X, bs, sc, W, l, tge, g, hz, h => by
    unfold ckI at h
    refine ⟨n_iv (sE a g h).pe, fold_of ?_⟩
    cases l <;> first | trivial | (cases a <;> first | (unfold ckE at h; exact Bool.noConfusion h) | (rename_i b0 _; cases b0 <;> (unfold ckE at h; exact Bool.noConfusion h)))
  | .rng a, X, bs, sc, W, l, tge, g, hz, h => by
    unfold ckI at h
    split at h <;> first | (exfalso; exact Bool.noConfusion h) | (cases ‹MP.It.rng a = _›) | skip
    simp only [Bool.and_eq_true, decide_eq_true_eq] at h
    obtain ⟨⟨⟨h1, h2⟩, h3⟩, h4⟩ := h
    have ga := sE a g h4
    exact ⟨n_rng g h1 h2 h3 ga.st ga.pe, fun _ => rfl⟩
  | .zip a b, X, bs, sc, W, l, tge, g, hz, h => by
    unfold ckI at h
    split at h <;> first | (exfalso; exact Bool.noConfusion h) | (cases ‹MP.It.zip a b = _›) | skip
    simp only [Bool.and_eq_true, decide_eq_true_eq] at h
    obtain ⟨⟨⟨⟨h1, h2⟩, h3⟩, h4⟩, h5⟩ := h
    have ga := sE a g h4
    have gb := sE b g h5
    obtain ⟨elts, k, p, rfl⟩ := hz rfl
    exact ⟨n_zip g h1 h2 h3 ga.st gb.st ga.pe gb.pe, fun _ => rfl⟩
  | .enu a, X, bs, sc, W, l, tge, g, hz, h => by
    unfold ckI at h
    split at h <;> first | (exfalso; exact Bool.noConfusion h) | (cases ‹MP.It.enu a = _›) | skip
    simp only [Bool.and_eq_true, decide_eq_true_eq] at h
    obtain ⟨⟨⟨h1, h2⟩, h3⟩, h4⟩ := h
    have ga := sE a g h4
    obtain ⟨elts, k, p, rfl⟩ := hz rfl
    exact ⟨n_enu g h1 h2 h3 ga.st ga.pe, fun _ => rfl⟩
  | .rng2 a b, X, bs, sc, W, l, tge, g, hz, h => by
    unfold ckI at h
    split at h <;> first | (exfalso; exact Bool.noConfusion h) | (cases ‹MP.It.rng2 a b = _›) | skip
    simp only [Bool.and_eq_true, decide_eq_true_eq] at h
    obtain ⟨⟨⟨⟨h1, h2⟩, h3⟩, h4⟩, h5⟩ := h
    have ga := sE a g h4
    have gb := sE b g h5
    exact ⟨n_rng2 g h1 h2 h3 ga.st gb.st ga.pe gb.pe, fun _ => rfl⟩
end
end
end MP

set_option maxHeartbeats 4000000
/-! Statements. -/
namespace MP
open PySem PySem.Spec PyProof.Rows L2

section
variable {T : Tab} {XT : List Value} {N : List Str} {X : Cx} {C : CT} {bs : Option Scope} {sc : Scope} {W : WX}
theorem sLc {n : Bool} {el : Ex} {tg : Tg} {it : It} {co : OEx} {own : List Nat} {elt : Expr} {gens : List Comprehension} {scope : Scope} {p : Pos} (g : Gd T XT N X C bs sc W) (h : ckE T N (.lc n el tg it co own) bs sc (.ListComp elt gens scope p) = true) :
    ∃ tge ite ifs, gens = [⟨tge, ite, ifs, 0⟩] ∧ LcP T XT N C X sc W el tg it co own elt tge ite ifs scope := by
  unfold ckE at h
  split at h <;> first | (exfalso; exact Bool.noConfusion h) | (cases ‹MP.Ex.lc n el tg it co own = _›) | skip
  rename_i elt' tge ite ifs scope' p' he
  cases he
  simp only [Bool.and_eq_true, decide_eq_true_eq] at h
  obtain ⟨⟨⟨⟨⟨⟨⟨h1, h2⟩, h3⟩, hz⟩, h4⟩, h5⟩, h6⟩, h7⟩ := h
  obtain ⟨k1, k2⟩ := sI it g (tge := tge) (fun z => many_tup (by rw [z] at hz; exact hz) h5) h4
  refine ⟨tge, ite, ifs, rfl, h1, h2, h3, k1, k2, (fun s H Ca cl fp => n_tg (gd_blk g h1 s H Ca cl fp) h5), (fun s H Ca cl fp => n_c1 ?_), (fun s H Ca cl fp => (sE el (gd_blk g h1 s H Ca cl fp) h6).pe)⟩
  cases co with
  | none =>
    cases ifs with
    | nil => trivial
    | cons _ _ => cases h7
  | some ce =>
    cases ifs with
    | nil => cases h7
    | cons i r =>
      cases r with
      | nil => exact (sE ce (gd_blk g h1 s H Ca cl fp) h7).pt
      | cons _ _ => cases h7
end

/-! ### readings of statements -/
section
variable (K : PySem.W.Frag) (XT : List Value) (C : CT) (W : WX)
def ZF (D : Ends) : Hp → List Addr → Hea → Hp → Fl → Prop := fun F' m' _ H' fl => match fl with
  | .nx ρ => ∀ σ', Er K F' m' ρ σ' → D.nx σ' H'
  | .rt d => ∀ v, Rp K F' m' d v → D.rt v H'
  | .bk ρ => ∀ σ', Er K F' m' ρ σ' → D.bk σ' H'
  | .ct ρ => ∀ σ', Er K F' m' ρ σ' → D.ct σ' H'
  | .xc x ρ => ∀ σ' cls d, Er K F' m' ρ σ' → Xr XT x cls d → W cls d σ' H'
abbrev WF0 : Value → Option Addr → Hp → Prop := fun _ _ _ => False
def tS (s : Sm) : TS := fun D σ H => ∃ G F m h ρ, Rel K G F m h H ∧ Er K F m ρ σ ∧ Pst K XT WF0 G F m (exS C s ρ h) (ZF K XT W D)
def tB (b : List Sm) : TS := fun D σ H => ∃ G F m h ρ, Rel K G F m h H ∧ Er K F m ρ σ ∧ Pst K XT WF0 G F m (exB C b ρ h) (ZF K XT W D)
end
theorem _root_.L2.PS.imp {X : Cx} {e : Stmt} {t t' : TS} (p : PS X e t) (k : ∀ D σ H, t' D σ H → t D σ H) : PS X e t' := ⟨fun pins s σ H D I h => p.run pins s σ H D I (k D σ H h)⟩
theorem _root_.L2.PSs.imp {X : Cx} {e : List Stmt} {t t' : TS} (p : PSs X e t) (k : ∀ D σ H, t' D σ H → t D σ H) : PSs X e t' := ⟨fun pins s σ H D I h => p.run pins s σ H D I (k D σ H h)⟩
section
variable {K : PySem.W.Frag} {XT : List Value} {C : CT} {W : WX} {G F : Hp} {m : List Addr} {h : Hea} {H : Hp} {ρ : Env} {σ : Stt} {α : Type} {Ds : Ends}
theorem Pst.bns {r : R α} {f : α → Hea → R Fl} (er : Er K F m ρ σ) (p : Pst K XT WF0 G F m (r.bns ρ f) (ZF K XT W Ds)) : Pst K XT (WAt W σ) G F m r (fun F' m' h' _ a => Pst K XT WF0 G F' m' (f a h') (ZF K XT W Ds)) := by
  cases r with
  | ok a h' => exact fun F' m' H' x rl => Pst.ext x p
  | ex x h' => exact fun F' m' H' c d x rl q => p F' m' H' x rl σ c d (er.mono x) q
  | stuck => exact p
theorem tE.bns {e : Ex} {f : D → Hea → R Fl} {Q : VK} (rl : Rel K G F m h H) (er : Er K F m ρ σ) (p : Pst K XT WF0 G F m ((ev C e ρ h).bns ρ f) (ZF K XT W Ds))
    (k : ∀ F' m' h' H' d v, Ext F m F' m' → Rel K G F' m' h' H' → Er K F' m' ρ σ → Rp K F' m' d v → Pst K XT WF0 G F' m' (f d h') (ZF K XT W Ds) → Q v H') : tE K XT C W e σ H Q :=
  ⟨G, F, m, h, ρ, rl, er, (Pst.bns er p).mono fun F' m' h' H' d x rl' p' v r => k F' m' h' H' d v x rl' (er.mono x) r p'⟩
theorem tT.bns {e : Ex} {f : Bool → Hea → R Fl} {Q : Bool → Hp → Prop} (rl : Rel K G F m h H) (er : Er K F m ρ σ) (p : Pst K XT WF0 G F m ((tr C e ρ h).bns ρ f) (ZF K XT W Ds))
    (k : ∀ F' m' h' H' b, Ext F m F' m' → Rel K G F' m' h' H' → Er K F' m' ρ σ → Pst K XT WF0 G F' m' (f b h') (ZF K XT W Ds) → Q b H') : tT K XT C W e σ H Q :=
  ⟨G, F, m, h, ρ, rl, er, (Pst.bns er p).mono fun F' m' h' H' d x rl' p' => k F' m' h' H' d x rl' (er.mono x) p'⟩
theorem tI.bns {e : It} {f : Walk → Hea → R Fl} {R' : L2.It → Hp → Prop} (rl : Rel K G F m h H) (er : Er K F m ρ σ) (p : Pst K XT WF0 G F m ((evi C e ρ h).bns ρ f) (ZF K XT W Ds))
    (k : ∀ F' m' h' H' w, Ext F m F' m' → Rel K G F' m' h' H' → Er K F' m' ρ σ → Pst K XT WF0 G F' m' (f w h') (ZF K XT W Ds) → ∀ J, JR K F' m' J w → R' J H') : tI K XT C W e σ H R' :=
  ⟨G, F, m, h, ρ, rl, er, (Pst.bns er p).mono fun F' m' h' H' d x rl' p' => k F' m' h' H' d x rl' (er.mono x) p'⟩
end

section
variable {T : Tab} {XT : List Value} {N : List Str} {X : Cx} {C : CT} {sc : Scope} {W : WX} {pos : Pos}
theorem gT_name {K : PySem.W.Frag} {i : Nat} : gT K (.one i) = gName i := rfl
/-- setting a slot -/
theorem set_imp {i : Nat} {e : Ex} (Ds : Ends) (σ : Stt) (H : Hp) (q : tS X.K XT C W (.set i e) Ds σ H) : tAsg (tE X.K XT C W e) (gName i) Ds σ H := by
  obtain ⟨G, F, m, h, ρ, rl, er, q⟩ := q
  unfold exS at q
  refine tE.bns rl er q fun F1 m1 h1 H1 d v x1 rl1 er1 r1 q1 => ?_
  exact Pst.ok q1 rl1 _ (er1.set r1)
theorem ckE_sc {e : Ex} {bs : Option Scope} {a c d f} : ckE T N e bs sc (.SetComp a c d f) = false := by
  cases e <;> first | rfl | (rename_i b0 _; cases b0 <;> rfl)
theorem ckE_dc {e : Ex} {bs : Option Scope} {a b c d f} : ckE T N e bs sc (.DictComp a b c d f) = false := by
  cases e <;> first | rfl | (rename_i b0 _; cases b0 <;> rfl)
theorem swB_of {e : Ex} {x : Str} {p : Pos} {v : Expr} (h : swB sc x p v = false) (hk : funB sc = true) (hsc : X.env.scope = sc) (h4 : ckE T N e none sc v = true) (l : Nat) : swapsWith v (some (.Name x p)) l X.env = pure false := by
  have hkind : X.env.scope.kind = .function := by
    rw [hsc]; unfold funB at hk; split at hk
    · assumption
    · cases hk
  have hb : X.env.blockKind = .function := by unfold Env.blockKind; rw [hkind]; rfl
  cases v with
  | ListComp elt gs scope q =>
    unfold swB at h
    have kn : (X.env.kindOf x == some .local) = (match sc.names.lookup x with | some .local => true | _ => false) := by
      show (X.env.scope.names.lookup x == some .local) = _
      rw [hsc]
      cases sc.names.lookup x with
      | none => rfl
      | some k => cases k <;> rfl
    have h2 : (X.env.kindOf x == some .local && p.line == q.line && !(scope.names.any fun (n, k) => n == x && (k == .local || k == .cell))) = false := by rw [kn]; exact h
    unfold swapsWith
    show (pure (X.env.blockKind == .function && X.env.kindOf x == some .local && p.line == q.line && !(scope.names.any fun (n, k) => n == x && (k == .local || k == .cell))) : Sem Bool) = pure false
    rw [hb]
    have e : ((ScopeKind.function == .function) && X.env.kindOf x == some .local && p.line == q.line && !(scope.names.any fun (n, k) => n == x && (k == .local || k == .cell))) = (X.env.kindOf x == some .local && p.line == q.line && !(scope.names.any fun (n, k) => n == x && (k == .local || k == .cell))) := by
      rw [show (ScopeKind.function == .function) = true from rfl, Bool.true_and]
    rw [e, h2]
  | SetComp _ _ _ _ => rw [ckE_sc] at h4; cases h4
  | DictComp _ _ _ _ _ => rw [ckE_dc] at h4; cases h4
  | _ => rfl
theorem n_set (g : Gd T XT N X C none sc W) {i : Nat} {e : Ex} {x : Str} {p : Pos} {v : Expr} (h1 : N[i]? = some x) (h2 : locB sc x = true) (h3 : funB sc = true) (h4 : ckE T N e none sc v = true) : PS X (.Assign [.Name x p] v pos) (tS X.K XT C W (.set i e)) := by
  have hN := ix_of g h1
  obtain ⟨hl, hf⟩ := g.tgt x h2
  cases hs : swB sc x p v with
  | false => exact (ps_set g.nd hN hl (sE e g h4).pe (swB_of hs h3 g.scp h4 _) hf).imp set_imp
  | true =>
    unfold swB at hs
    split at hs
    · rename_i elt gens scope q
      simp only [Bool.and_eq_true, Bool.not_eq_true'] at hs
      obtain ⟨⟨k1, k2⟩, k3⟩ := hs
      have hkind : X.env.scope.kind = .function := by
        rw [g.scp]; unfold funB at h3; split at h3
        · assumption
        · cases h3
      have hloc : X.env.scope.names.lookup x = some .local := by
        rw [g.scp]
        split at k1
        · assumption
        · cases k1
      cases e with
      | lc n el tg it co own =>
        obtain ⟨tge, ite, ifs, rfl, P⟩ := sLc g h4
        have ok : BlkOk X.N X.env.scope scope (ownOf N own) := blkOk_by (by rw [g.N, g.scp]; exact P.hb)
        refine (ps_setLc g.calm g.nd hN hloc (sw_true hkind hloc k2 k3) P.hi ok P.hg P.hc P.he P.hs).imp fun D σ H q => ?_
        rw [P.ho]
        exact lc_imp P.ht σ H _ (set_imp D σ H q)
      | blt _ b _ => cases b <;> (unfold ckE at h4; exact Bool.noConfusion h4)
      | _ => unfold ckE at h4; exact Bool.noConfusion h4
    · cases hs
end
end MP

set_option maxHeartbeats 4000000
/-! Statements: loops; all of them. -/
namespace MP
open PySem PySem.Spec PyProof.Rows L2
/-- a, b = e, e a tuple or a list -/
def gSeq (K : PySem.W.Frag) (n : Nat) (t : TGs) : TG := fun v σ H Q => ∃ a xs, v = .ref a ∧ (SqT K H a xs ∨ SqL K H a xs) ∧ xs.length = n ∧ t xs σ H Q
theorem pg_seq {X : Cx} {pos : Pos} {es : List Expr} {k : Nat} {t : TGs} {n : Nat} (hc : X.calm = true) (h : PGs X es t) (hn : (assignEach es X.env).length = n) (hst : (assignEach es X.env).findIdx? (·.1) = none) : PG X (.Tuple es k pos) (gSeq X.K n t) := by
  refine ⟨fun pins s σ H v u Q I r ⟨a, xs, e, hq, hl, hw⟩ => ?_⟩
  rcases hq with hq | hq
  · exact (pg_tup hc h hn hst).run pins s σ H v u Q I r ⟨a, xs, e, hq, hl, hw⟩
  · exact (pg_lst hc h hn hst).run pins s σ H v u Q I r ⟨a, xs, e, hq, hl, hw⟩

section
variable {T : Tab} {XT : List Value} {N : List Str} {X : Cx} {C : CT} {sc : Scope} {W : WX} {pos : Pos}
theorem loop_fl {K : PySem.W.Frag} {G F : Hp} {m : List Addr} {Ds : Ends} {N1 : Stt → Hp → Prop} {r : R Fl} {f : Env → Hea → R Fl}
    (p : Pst K XT WF0 G F m (r.bnd fun fl h => match fl with
      | .nx ρ => f ρ h
      | .ct ρ => f ρ h
      | .bk ρ => .ok (.nx ρ) h
      | .rt d => .ok (.rt d) h
      | .xc x ρ => .ok (.xc x ρ) h) (ZF K XT W Ds))
    (k : ∀ F' m' h' H' ρ' σ', Ext F m F' m' → Rel K G F' m' h' H' → Er K F' m' ρ' σ' → Pst K XT WF0 G F' m' (f ρ' h') (ZF K XT W Ds) → N1 σ' H') :
    Pst K XT WF0 G F m r (ZF K XT W { Ds with nx := N1, ct := N1, bk := Ds.nx }) := by
  refine p.bnd.mono fun F' m' h' H' fl x rl q => ?_
  cases fl with
  | nx ρ' => exact fun σ' er => k F' m' h' H' ρ' σ' x rl er q
  | ct ρ' => exact fun σ' er => k F' m' h' H' ρ' σ' x rl er q
  | bk ρ' => exact q F' m' H' .refl rl
  | rt d => exact q F' m' H' .refl rl
  | xc x' ρ' => exact q F' m' H' .refl rl
theorem n_whl {c : Ex} {b : List Sm} {ce : Expr} {be : List Stmt} (hp : PassesOwn (model X.prog X.w) X.A X.env X.xe) (hc : PT X ce (tT X.K XT C W c)) (hb : PSs X be (tB X.K XT C W b)) : PS X (.While ce be [] pos) (tS X.K XT C W (.whl c b)) := by
  refine (ps_while hp hc hb).imp fun Ds σ H ⟨G, F, m, h, ρ, rl, er, q⟩ => ?_
  unfold exS at q
  refine ⟨fun k σ H => ∃ F m h ρ, Rel X.K G F m h H ∧ Er X.K F m ρ σ ∧ Pst X.K XT WF0 G F m (whL (tr C c) (fun ρ h => exB C b ρ h) k ρ h) (ZF X.K XT W Ds), ⟨WF, F, m, h, ρ, rl, er, q⟩, ?_⟩
  rintro k σ H ⟨F, m, h, ρ, rl, er, q⟩
  cases k with
  | zero => exact q.elim
  | succ k =>
    unfold whL at q
    refine tT.bns rl er q fun F1 m1 h1 H1 bb x1 rl1 er1 q1 => ?_
    cases bb with
    | false => rw [if_neg (by decide)] at q1 ⊢; exact Pst.ok q1 rl1 _ er1
    | true =>
      rw [if_pos rfl] at q1 ⊢
      refine ⟨fun σ' H' => ∃ F m h ρ, Rel X.K G F m h H' ∧ Er X.K F m ρ σ' ∧ Pst X.K XT WF0 G F m (whL (tr C c) (fun ρ h => exB C b ρ h) k ρ h) (ZF X.K XT W Ds), fun σ' H' hh => ⟨k, Nat.lt_succ_self k, hh⟩, ?_⟩
      exact ⟨G, F1, m1, h1, ρ, rl1, er1, loop_fl q1 fun F' m' h' H' ρ' σ' x rl er q => ⟨F', m', h', ρ', rl, er, q⟩⟩
theorem n_for {tg : Tg} {it : It} {b : List Sm} {tge ite : Expr} {be : List Stmt} (hp : PassesOwn (model X.prog X.w) X.A X.env X.xe) (hc : X.calm = true) (hi : PI X tge ite (tI X.K XT C W it)) (hg : PG X tge (gT X.K tg)) (hb : PSs X be (tB X.K XT C W b))
    (hs : ∀ x, foldedSetIterable ite X.env x = pure x) : PS X (.For tge ite be [] pos) (tS X.K XT C W (.for_ tg it b)) := by
  refine (ps_for hp hc hi hg hb hs).imp fun Ds σ H ⟨G, F, m, h, ρ, rl, er, q⟩ => ?_
  unfold exS at q
  refine tI.bns rl er q fun F1 m1 h1 H1 w x1 rl1 er1 q1 J hJ => ?_
  refine ⟨fun i k σ H => i + k = w.its.length ∧ ∃ F m h ρ, Ext F1 m1 F m ∧ Rel X.K G F m h H ∧ Er X.K F m ρ σ ∧ Pst X.K XT WF0 G F m (frL (fun ρ h => exB C b ρ h) tg w.fin (w.its.drop i) ρ h) (ZF X.K XT W Ds),
    ⟨w.its.length, by omega, F1, m1, h1, ρ, .refl, rl1, er1, q1⟩, ?_⟩
  rintro i k σ H ⟨hk, F, m, h, ρ, x, rl, er, q⟩
  cases k with
  | zero =>
    have hd : w.its.drop i = [] := List.drop_eq_nil_of_le (by omega)
    rw [hd] at q
    unfold frL at q
    split at q
    · rename_i hf
      left
      have st := (hJ _ _ _ _ _ x rl).2 hf
      exact ⟨by rw [show i = w.its.length by omega]; exact st, Pst.ok q rl _ er⟩
    · exact q.elim
  | succ k =>
    right
    have hi' : i < w.its.length := by omega
    have hd : w.its.drop i = w.its[i] :: w.its.drop (i + 1) := List.drop_eq_getElem_cons hi'
    rw [hd] at q
    unfold frL at q
    cases e1 : itm h w.its[i] with
    | none => simp only [e1] at q; exact q.elim
    | some d =>
      simp only [e1] at q
      cases e2 : bindT h tg d ρ with
      | none => simp only [e2] at q; exact q.elim
      | some ρ' =>
        simp only [e2] at q
        obtain ⟨go, yl⟩ := (hJ _ _ _ _ _ x rl).1 i _ d (List.getElem?_eq_getElem hi') e1
        refine ⟨go, fun σ' H' => ∃ k', k' < k + 1 ∧ (i + 1 + k' = w.its.length ∧ ∃ F m h ρ, Ext F1 m1 F m ∧ Rel X.K G F m h H' ∧ Er X.K F m ρ σ' ∧ Pst X.K XT WF0 G F m (frL (fun ρ h => exB C b ρ h) tg w.fin (w.its.drop (i + 1)) ρ h) (ZF X.K XT W Ds)), fun σ' H' hh => hh, fun y H' hy => ?_⟩
        obtain ⟨F2, x2, rl2, r2⟩ := yl y H' hy
        refine bindT_ok rl2 (er.mono x2) r2 e2 fun σ' er' => ?_
        exact ⟨G, F2, m, h, ρ', rl2, er', loop_fl (Pst.ext x2 q) fun F' m' h' H'' ρ'' σ'' x3 rl3 er3 q3 => ⟨k, by omega, by omega, F', m', h', ρ'', (x.trans x2).trans x3, rl3, er3, q3⟩⟩
theorem n_exp {e : Ex} {ee : Expr} (hp : PE X ee (tE X.K XT C W e)) (hs : isLc ee = false) : PS X (.Expr ee pos) (tS X.K XT C W (.exp e)) := by
  refine (ps_expr hp (by cases ee <;> first | rfl | cases hs)).imp fun Ds σ H ⟨G, F, m, h, ρ, rl, er, q⟩ => ?_
  unfold exS at q
  exact tE.bns rl er q fun F1 m1 h1 H1 d v x1 rl1 er1 r1 q1 => Pst.ok q1 rl1 _ er1
theorem n_ret {e : Ex} {ee : Expr} (hp : PE X ee (tE X.K XT C W e)) : PS X (.Return (some ee) pos) (tS X.K XT C W (.ret e)) := by
  refine (ps_ret hp).imp fun Ds σ H ⟨G, F, m, h, ρ, rl, er, q⟩ => ?_
  unfold exS at q
  exact tE.bns rl er q fun F1 m1 h1 H1 d v x1 rl1 er1 r1 q1 => Pst.ok q1 rl1 _ r1
theorem n_rtn : PS X (.Return none pos) (tS X.K XT C W .rtn) := by
  refine ps_retN.imp fun Ds σ H ⟨G, F, m, h, ρ, rl, er, q⟩ => ?_
  unfold exS at q
  exact Pst.ok q rl _ mk_non
theorem n_brk : PS X (.Break pos) (tS X.K XT C W .brk) := by
  refine ps_break.imp fun Ds σ H ⟨G, F, m, h, ρ, rl, er, q⟩ => ?_
  unfold exS at q
  exact Pst.ok q rl _ er
theorem n_cnt : PS X (.Continue pos) (tS X.K XT C W .cnt) := by
  refine ps_continue.imp fun Ds σ H ⟨G, F, m, h, ρ, rl, er, q⟩ => ?_
  unfold exS at q
  exact Pst.ok q rl _ er
theorem n_stk {st : Stmt} : PS X st (tS X.K XT C W .stk) := ⟨fun pins s σ H D I ⟨G, F, m, h, ρ, rl, er, q⟩ => by
  unfold exS at q
  exact q.elim⟩
theorem n_ifs {c : Ex} {a b : List Sm} {ce : Expr} {ae be : List Stmt} (hc : PT X ce (tT X.K XT C W c)) (ha : PSs X ae (tB X.K XT C W a)) (hb : PSs X be (tB X.K XT C W b)) : PS X (.If ce ae be pos) (tS X.K XT C W (.ifs c a b)) := by
  refine (ps_if hc ha hb).imp fun Ds σ H ⟨G, F, m, h, ρ, rl, er, q⟩ => ?_
  unfold exS at q
  refine tT.bns rl er q fun F1 m1 h1 H1 bb x1 rl1 er1 q1 => ?_
  cases bb with
  | true => rw [if_pos rfl] at q1 ⊢; exact ⟨G, F1, m1, h1, ρ, rl1, er1, q1⟩
  | false => rw [if_neg (by decide)] at q1 ⊢; exact ⟨G, F1, m1, h1, ρ, rl1, er1, q1⟩
theorem n_sti (g : Gd T XT N X C none sc W) {o i e : Ex} {oe ie ee : Expr} {p : Pos} (hn : noSlice ie = true) (ho : PE X oe (tE X.K XT C W o)) (hi : PE X ie (tE X.K XT C W i)) (he : PE X ee (tE X.K XT C W e)) : PS X (.Assign [.Subscript oe ie p] ee pos) (tS X.K XT C W (.sti o i e)) := by
  have ha : ∀ v, assign (.Subscript oe ie p) X.env v = (do
      let ov ← holding [v] (eval oe X.env)
      let iv ← holding [v, ov] (eval ie X.env)
      standAt p
      holding [v, ov, iv] (setItem ov iv v)
      release [v, ov, iv] []) := by
    intro v
    cases ie <;> first | rfl | cases hn
  refine (ps_asg he (pg_sub ho hi (op_sti (by have := g.hu; omega)) ha) (by cases ee <;> rfl) (by cases ee <;> rfl)).imp fun Ds σ H ⟨G, F, m, h, ρ, rl, er, q⟩ => ?_
  unfold exS at q
  refine tE.bns rl er q fun F1 m1 h1 H1 d v x1 rl1 er1 r1 q1 => ?_
  refine tE.bns rl1 er1 q1 fun F2 m2 h2 H2 d2 v2 x2 rl2 er2 r2 q2 => ?_
  refine tE.bns rl2 er2 q2 fun F3 m3 h3 H3 d3 v3 x3 rl3 er3 r3 q3 => ?_
  split at q3
  · rename_i h' e1
    exact ⟨G, F3, m3, h3, d2, d3, d, h', rl3, Rp.mono x3 _ _ r2, r3, Rp.mono x3 _ _ (Rp.mono x2 _ _ r1), e1, fun F' m' H' x rl' => q3 F' m' H' x rl' σ (er3.mono x)⟩
  · exact q3.elim

/-! ### several names at once -/
theorem fun_of (hsc : X.env.scope = sc) (h3 : funB sc = true) : X.env.blockKind = .function := by
  have hkind : X.env.scope.kind = .function := by
    rw [hsc]; unfold funB at h3; split at h3
    · assumption
    · cases h3
  unfold Env.blockKind; rw [hkind]; rfl
theorem lB_of (hsc : X.env.scope = sc) {x : Str} (h : lB sc x = true) : X.env.kindOf x = some .local := by
  show X.env.scope.names.lookup x = _
  rw [hsc]
  unfold lB at h
  split at h
  · assumption
  · cases h
theorem swp2 {x y : Str} {px py p p2 : Pos} {a b : Expr} {k k2 : Nat} (hb : X.env.blockKind = .function) (hx : X.env.kindOf x = some .local) (hy : X.env.kindOf y = some .local) (hl : (py.line == px.line) = true) (hxy : (x == y) = false)
    (ha : noStar a = true) (hb' : noStar b = true) (h6 : [a, b].all (foldedForSure 8) = false) (h7 : [a, b].all (constantsAlone 8) = false) :
    swappedStores [.Tuple [.Name x px, .Name y py] k p] (.Tuple [a, b] k2 p2) X.env = pure (some [x, y]) := by
  have hyx : (y == x) = false := by rw [beq_eq_false_iff_ne] at hxy ⊢; exact Ne.symm hxy
  unfold swappedStores
  simp only [h6, h7, hb, List.length_cons, List.length_nil, List.filterMap_cons, List.filterMap_nil, hx, hy, Expr.pos, List.head?_cons, Option.map_some, Option.getD_some, beq_self_eq_true, hl, Bool.and_self, if_true, List.eraseDups_cons, hyx]
  simp [hyx]
  rw [if_neg (by
    rintro (h | h)
    · cases a <;> first | (cases ha; done) | (cases h; done)
    · cases b <;> first | (cases hb'; done) | (cases h; done))]
  rw [if_pos (by rw [List.eraseDups_cons]; rfl)]
theorem swp3 {x y z : Str} {px py pz p p2 : Pos} {a b c : Expr} {k k2 : Nat} (hb : X.env.blockKind = .function) (hx : X.env.kindOf x = some .local) (hy : X.env.kindOf y = some .local) (hz : X.env.kindOf z = some .local) (hl : (py.line == px.line) = true) (hl2 : (pz.line == px.line) = true)
    (hxy : (x == y) = false) (hxz : (x == z) = false) (hyz : (y == z) = false) (ha : noStar a = true) (hb' : noStar b = true) (hc' : noStar c = true) (h6 : [a, b, c].all (foldedForSure 8) = false) (h7 : [a, b, c].all (constantsAlone 8) = false) :
    swappedStores [.Tuple [.Name x px, .Name y py, .Name z pz] k p] (.Tuple [a, b, c] k2 p2) X.env = pure (some [x, y, z]) := by
  have hyx : (y == x) = false := by rw [beq_eq_false_iff_ne] at hxy ⊢; exact Ne.symm hxy
  have hzx : (z == x) = false := by rw [beq_eq_false_iff_ne] at hxz ⊢; exact Ne.symm hxz
  have hzy : (z == y) = false := by rw [beq_eq_false_iff_ne] at hyz ⊢; exact Ne.symm hyz
  unfold swappedStores
  simp only [h6, h7, hb, List.length_cons, List.length_nil, List.filterMap_cons, List.filterMap_nil, hx, hy, hz, Expr.pos, List.head?_cons, Option.map_some, Option.getD_some, beq_self_eq_true, hl, hl2, Bool.and_self, if_true, List.eraseDups_cons, hyx, hzx, hzy]
  simp [hyx, hzx, hzy]
  rw [if_neg (by
    rintro (h | h | h)
    · cases a <;> first | (cases ha; done) | (cases h; done)
    · cases b <;> first | (cases hb'; done) | (cases h; done)
    · cases c <;> first | (cases hc'; done) | (cases h; done))]
  rw [if_pos (by rw [List.eraseDups_cons]; simp only [List.filter_cons, hzy]; simp; rw [List.eraseDups_cons]; rfl)]
theorem unp_start {is : List Nat} {es : Exs} {Ds : Ends} {σ : Stt} {H : Hp} (q : tS X.K XT C W (.unp is (.tup es)) Ds σ H) :
    tEs X.K XT C W es σ H fun vs H1 => ∃ G F m h ds ρ ρ', Rel X.K G F m h H1 ∧ Rps X.K F m ds vs ∧ Er X.K F m ρ σ ∧ setAll is ds ρ = some ρ' ∧ ∀ σ', Er X.K F m ρ' σ' → Ds.nx σ' H1 := by
  obtain ⟨G, F, m, h, ρ, rl, er, q⟩ := q
  unfold exS ev at q
  have e : ∀ (r : R (List D)) (f : List D → Hea → R D) (g : D → Hea → R Fl), (∀ a h, (∃ b h', f a h = .ok b h') ∨ f a h = .stuck) → (r.bnd f).bns ρ g = r.bns ρ fun a h => (f a h).bns ρ g := fun r f g hf => by
    cases r <;> rfl
  rw [e _ _ _ (fun a h => by
    split
    · exact .inl ⟨_, _, rfl⟩
    · exact .inr rfl)] at q
  refine ⟨G, F, m, h, ρ, rl, er, (Pst.bns er q).mono fun F1 m1 h1 H1 ds x1 rl1 q1 vs r1 => ?_⟩
  split at q1
  · have q1 : Pst X.K XT WF0 G F1 m1 (match setAll is ds ρ with | some ρ => .ok (.nx ρ) h1 | none => .stuck) (ZF X.K XT W Ds) := q1
    cases e2 : setAll is ds ρ with
    | none => rw [e2] at q1; exact q1.elim
    | some ρ' => rw [e2] at q1; exact ⟨G, F1, m1, h1, ds, ρ, ρ', rl1, r1, er.mono x1, e2, Pst.ok q1 rl1⟩
  · exact q1.elim
theorem fm_short {α β : Type} (f : α → Option β) : ∀ {l : List α} {a : α}, a ∈ l → f a = none → (l.filterMap f).length < l.length
  | x :: l, a, h, e => by
    rcases List.mem_cons.mp h with rfl | q
    · rw [List.filterMap_cons_none e]
      exact Nat.lt_succ_of_le (List.length_filterMap_le ..)
    · have := fm_short f q e
      cases ex : f x with
      | none => rw [List.filterMap_cons_none ex]; exact Nat.lt_succ_of_lt this
      | some y => rw [List.filterMap_cons_some ex]; exact Nat.succ_lt_succ this
theorem swp_none {es : List Expr} {k : Nat} {p : Pos} {v : Expr} (hsc : X.env.scope = sc) (h : celB sc es = true) : swappedStores [.Tuple es k p] v X.env = pure none := by
  cases v with
  | Tuple vs k2 p2 =>
    obtain ⟨e, he, hx⟩ := List.any_eq_true.mp h
    cases e with
    | Name x px =>
      have hk : (X.env.kindOf x == some .local) = false := by
        show (X.env.scope.names.lookup x == some .local) = false
        rw [hsc]
        have hx : (!lB sc x) = true := hx
        rw [Bool.not_eq_true'] at hx
        rw [beq_eq_false_iff_ne]
        intro z
        unfold lB at hx
        rw [z] at hx
        cases hx
      unfold swappedStores
      dsimp only
      split
      · rfl
      split
      · rfl
      rw [if_pos]
      · rw [Bool.or_eq_true]
        left
        rw [bne_iff_ne]
        refine Nat.ne_of_lt (fm_short _ he ?_)
        dsimp only
        rw [hk]; rfl
    | _ => cases hx
  | _ => rfl
theorem n_unp (g : Gd T XT N X C none sc W) {is : List Nat} {e : Ex} {es : List Expr} {k : Nat} {p : Pos} {v : Expr} (h2 : tupB sc es is v = true) (h3 : ckTgs N none sc is es = true) (h4 : ckE T N e none sc v = true) :
    PS X (.Assign [.Tuple es k p] v pos) (tS X.K XT C W (.unp is e)) := by
  have ge := sE e g h4
  obtain ⟨t1, t2, t3⟩ := tgs_ok g h3
  by_cases hv : (∃ vs k2 p2, v = .Tuple vs k2 p2) ∧ celB sc es = false
  · obtain ⟨⟨vs, k2, p2, rfl⟩, hcel⟩ := hv
    have h2 : (celB sc es || (parB sc es vs && decide (is.Nodup))) = true := h2
    rw [hcel, Bool.false_or] at h2
    have h2 : (parB sc es vs && decide (is.Nodup)) = true := h2
    rw [Bool.and_eq_true, decide_eq_true_eq] at h2
    obtain ⟨h2, nd⟩ := h2
    cases e with
    | tup ee =>
      have ha := sEs ee g (show ckEs T N ee none sc vs = true by unfold ckE at h4; exact h4)
      have hst := ha.star
      unfold parB at h2
      split at h2
      · rename_i x px y py a b
        simp only [Bool.and_eq_true, Bool.not_eq_true'] at h2
        obtain ⟨⟨⟨⟨⟨⟨k1, k2'⟩, k3⟩, k4⟩, k5⟩, k6⟩, k7⟩ := h2
        cases is with
        | nil => unfold ckTgs at h3; cases h3
        | cons i is =>
          cases is with
          | nil => unfold ckTgs ckTgs at h3; simp at h3
          | cons j is =>
            cases is with
            | cons _ _ => unfold ckTgs ckTgs ckTgs at h3; simp at h3
            | nil =>
              unfold ckTgs ckTgs at h3
              simp only [Bool.and_eq_true, decide_eq_true_eq] at h3
              have hij : i ≠ j := fun z => by simp [z] at nd
              refine (ps_par g.calm g.nd (ix_of g h3.1.1) (ix_of g h3.2.1.1) hij (lB_of g.scp k2') (lB_of g.scp k3) ha.pa (swp2 (fun_of g.scp k1) (lB_of g.scp k2') (lB_of g.scp k3) k4 k5 (hst _ (by simp)) (hst _ (by simp)) k6 k7)).imp fun Ds σ H q => ?_
              obtain ⟨G, F, m, h, ρ, rl, er, q⟩ := unp_start q
              refine ⟨G, F, m, h, ρ, rl, er, q.mono fun F1 m1 h1 H1 ds x1 rl1 qq vs r => ?_⟩
              obtain ⟨G2, F2, m2, h2, ds2, ρ0, ρ', rl2, r2, er2, e2, q2⟩ := qq vs r
              have hl := setAll_len e2
              obtain ⟨v1, w1, rfl⟩ : ∃ v1 w1, vs = [v1, w1] := by
                have := r2.len
                rw [hl] at this
                match vs, this with
                | [a, b], _ => exact ⟨a, b, rfl⟩
              refine ⟨v1, w1, rfl, ?_⟩
              obtain ⟨va, vb, e3, q3⟩ := setAll_ok (H := H1) (Q := Ds.nx) er2 r2 e2 q2
              cases e3
              obtain ⟨vc, vd, e4, q4⟩ := q3
              cases e4
              exact q4.2
      · rename_i x px y py z pz a b c
        simp only [Bool.and_eq_true, Bool.not_eq_true'] at h2
        obtain ⟨⟨⟨⟨⟨⟨⟨⟨⟨⟨k1, k2'⟩, k3⟩, k4⟩, k5⟩, k6⟩, k7⟩, k8⟩, k9⟩, k10⟩, k11⟩ := h2
        cases is with
        | nil => unfold ckTgs at h3; cases h3
        | cons i is =>
          cases is with
          | nil => unfold ckTgs ckTgs at h3; simp at h3
          | cons j is =>
            cases is with
            | nil => unfold ckTgs ckTgs ckTgs at h3; simp at h3
            | cons l is =>
              cases is with
              | cons _ _ => unfold ckTgs ckTgs ckTgs ckTgs at h3; simp at h3
              | nil =>
                unfold ckTgs ckTgs ckTgs at h3
                simp only [Bool.and_eq_true, decide_eq_true_eq] at h3
                have hij : i ≠ j := fun z => by simp [z] at nd
                have hil : i ≠ l := fun z => by simp [z] at nd
                have hjl : j ≠ l := fun z => by simp [z] at nd
                refine (ps_par3 g.calm g.nd (ix_of g h3.1.1) (ix_of g h3.2.1.1) (ix_of g h3.2.2.1.1) hij hil hjl (lB_of g.scp k2') (lB_of g.scp k3) (lB_of g.scp k4) ha.pa
                  (swp3 (fun_of g.scp k1) (lB_of g.scp k2') (lB_of g.scp k3) (lB_of g.scp k4) k5 k6 k7 k8 k9 (hst _ (by simp)) (hst _ (by simp)) (hst _ (by simp)) k10 k11)).imp fun Ds σ H q => ?_
                obtain ⟨G, F, m, h, ρ, rl, er, q⟩ := unp_start q
                refine ⟨G, F, m, h, ρ, rl, er, q.mono fun F1 m1 h1 H1 ds x1 rl1 qq vs r => ?_⟩
                obtain ⟨G2, F2, m2, h2, ds2, ρ0, ρ', rl2, r2, er2, e2, q2⟩ := qq vs r
                have hl := setAll_len e2
                obtain ⟨v1, w1, u1, rfl⟩ : ∃ v1 w1 u1, vs = [v1, w1, u1] := by
                  have := r2.len
                  rw [hl] at this
                  match vs, this with
                  | [a, b, c], _ => exact ⟨a, b, c, rfl⟩
                refine ⟨v1, w1, u1, rfl, ?_⟩
                obtain ⟨va, vb, e3, q3⟩ := setAll_ok (H := H1) (Q := Ds.nx) er2 r2 e2 q2
                cases e3
                obtain ⟨vc, vd, e4, q4⟩ := q3
                cases e4
                obtain ⟨ve, vf, e5, q5⟩ := q4
                cases e5
                exact q5.2
      · cases h2
    | blt _ b _ => cases b <;> (unfold ckE at h4; exact Bool.noConfusion h4)
    | _ => unfold ckE at h4; exact Bool.noConfusion h4
  · have hw : swappedStores [.Tuple es k p] v X.env = pure none := by
      cases hcel : celB sc es with
      | true => exact swp_none g.scp hcel
      | false => cases v <;> first | rfl | exact absurd ⟨⟨_, _, _, rfl⟩, hcel⟩ hv
    refine (ps_asg ge.pe (pg_seq g.calm t1 t2 t3) (by cases v <;> rfl) hw).imp fun Ds σ H ⟨G, F, m, h, ρ, rl, er, q⟩ => ?_
    unfold exS at q
    refine tE.bns rl er q fun F1 m1 h1 H1 d v x1 rl1 er1 r1 q1 => ?_
    cases e1 : seqV h1 d with
    | none => rw [e1] at q1; exact q1.elim
    | some ds =>
      rw [e1] at q1
      have q1 : Pst X.K XT WF0 G F1 m1 (match setAll is ds ρ with | some ρ => .ok (.nx ρ) h1 | none => .stuck) (ZF X.K XT W Ds) := q1
      cases e2 : setAll is ds ρ with
      | none => rw [e2] at q1; exact q1.elim
      | some ρ' =>
        rw [e2] at q1
        obtain ⟨a, vs, rfl, s, r2⟩ := seqV_ok rl1 r1 e1
        exact ⟨a, vs, rfl, s.symm, by rw [← r2.len]; exact setAll_len e2, setAll_ok er1 r2 e2 (Pst.ok q1 rl1)⟩

/-! ### all of them -/
theorem n_bnil : PSs X [] (tB X.K XT C W []) := pss_nil.imp fun Ds σ H ⟨G, F, m, h, ρ, rl, er, q⟩ => by
  unfold exB at q
  exact Pst.ok q rl _ er
theorem n_bcons {s : Sm} {ss : List Sm} {st : Stmt} {r : List Stmt} (h1 : PS X st (tS X.K XT C W s)) (h2 : PSs X r (tB X.K XT C W ss)) : PSs X (st :: r) (tB X.K XT C W (s :: ss)) := by
  refine (pss_cons h1 h2).imp fun Ds σ H ⟨G, F, m, h, ρ, rl, er, q⟩ => ?_
  unfold exB at q
  refine ⟨G, F, m, h, ρ, rl, er, q.bnd.mono fun F' m' h' H' fl x rl' q' => ?_⟩
  cases fl with
  | nx ρ' => exact fun σ' er' => ⟨G, F', m', h', ρ', rl', er', q'⟩
  | ct ρ' => exact q' F' m' H' .refl rl'
  | bk ρ' => exact q' F' m' H' .refl rl'
  | rt d => exact q' F' m' H' .refl rl'
  | xc x' ρ' => exact q' F' m' H' .refl rl'
mutual
theorem sS : ∀ (s : Sm) {st : Stmt}, Gd T XT N X C none sc W → PassesOwn (model X.prog X.w) X.A X.env X.xe → ckS T N sc s st = true → PS X st (tS X.K XT C W s)
  | .exp e, st, g, hp, h => by
    unfold ckS at h
    split at h <;> first | (exfalso; exact Bool.noConfusion h) | (cases ‹MP.Sm.exp e = _›) | skip
    rw [Bool.and_eq_true, Bool.not_eq_true'] at h
    exact n_exp (sE e g h.2).pe h.1
  | .set i e, st, g, hp, h => by
    unfold ckS at h
    split at h <;> first | (exfalso; exact Bool.noConfusion h) | (cases ‹MP.Sm.set i e = _›) | skip
    simp only [Bool.and_eq_true, decide_eq_true_eq] at h
    exact n_set g h.1.1.1 h.1.1.2 h.1.2 h.2
  | .unp is e, st, g, hp, h => by
    unfold ckS at h
    split at h <;> first | (exfalso; exact Bool.noConfusion h) | (cases ‹MP.Sm.unp is e = _›) | skip
    rw [Bool.and_eq_true, Bool.and_eq_true] at h
    exact n_unp g h.1.1 h.1.2 h.2
  | .sti o i e, st, g, hp, h => by
    unfold ckS at h
    split at h <;> first | (exfalso; exact Bool.noConfusion h) | (cases ‹MP.Sm.sti o i e = _›) | skip
    simp only [Bool.and_eq_true, Bool.not_eq_true'] at h
    obtain ⟨⟨⟨h2, h3⟩, h4⟩, h5⟩ := h
    exact n_sti g h2 (sE o g h3).pe (sE i g h4).pe (sE e g h5).pe
  | .ifs c a b, st, g, hp, h => by
    unfold ckS at h
    split at h <;> first | (exfalso; exact Bool.noConfusion h) | (cases ‹MP.Sm.ifs c a b = _›) | skip
    simp only [Bool.and_eq_true] at h
    exact n_ifs (sE c g h.1.1).pt (sB a g hp h.1.2) (sB b g hp h.2)
  | .whl c b, st, g, hp, h => by
    unfold ckS at h
    split at h <;> first | (exfalso; exact Bool.noConfusion h) | (cases ‹MP.Sm.whl c b = _›) | skip
    simp only [Bool.and_eq_true] at h
    exact n_whl hp (sE c g h.1).pt (sB b g hp h.2)
  | .for_ tg it b, st, g, hp, h => by
    unfold ckS at h
    split at h <;> first | (exfalso; exact Bool.noConfusion h) | (cases ‹MP.Sm.for_ tg it b = _›) | skip
    rename_i tge ite bb p
    simp only [Bool.and_eq_true] at h
    obtain ⟨⟨⟨hz, h1⟩, h2⟩, h3⟩ := h
    obtain ⟨k1, k2⟩ := sI it g (tge := tge) (fun z => many_tup (by rw [z] at hz; exact hz) h2) h1
    exact n_for hp g.calm k1 (n_tg g h2) (sB b g hp h3) k2
  | .ret e, st, g, hp, h => by
    unfold ckS at h
    split at h <;> first | (exfalso; exact Bool.noConfusion h) | (cases ‹MP.Sm.ret e = _›) | skip
    exact n_ret (sE e g h).pe
  | .rtn, st, g, hp, h => by
    unfold ckS at h
    split at h <;> first | (exfalso; exact Bool.noConfusion h) | (cases ‹MP.Sm.rtn = _›) | skip
    exact n_rtn
  | .brk, st, g, hp, h => by
    unfold ckS at h
    split at h <;> first | (exfalso; exact Bool.noConfusion h) | (cases ‹MP.Sm.brk = _›) | skip
    exact n_brk
  | .cnt, st, g, hp, h => by
    unfold ckS at h
    split at h <;> first | (exfalso; exact Bool.noConfusion h) | (cases ‹MP.Sm.cnt = _›) | skip
    exact n_cnt
  | .stk, st, g, hp, h => n_stk
theorem sB : ∀ (b : List Sm) {l : List Stmt}, Gd T XT N X C none sc W → PassesOwn (model X.prog X.w) X.A X.env X.xe → ckB T N sc b l = true → PSs X l (tB X.K XT C W b)
  | [], l, g, hp, h => by
    unfold ckB at h
    split at h <;> first | (exfalso; exact Bool.noConfusion h) | skip
    · exact n_bnil
    · cases ‹([] : List Sm) = _›
  | s :: ss, l, g, hp, h => by
    unfold ckB at h
    split at h <;> first | (exfalso; exact Bool.noConfusion h) | (cases ‹s :: ss = _›) | skip
    rw [Bool.and_eq_true] at h
    exact n_bcons (sS s g hp h.1) (sB ss g hp h.2)
end
end
end MP

set_option maxHeartbeats 4000000
/-! Defs: what a def's text brings about, called. -/
namespace MP
open PySem PySem.Spec PyProof.Rows L2

section
variable {K : PySem.W.Frag} {XT : List Value} {G F : Hp} {m : List Addr} {h : Hea} {H : Hp}
/-- the cells behind -/
theorem rel_trunc {F2 : Hp} {l m0 : List Addr} (rl : Rel K G F m h H) (em : m = l ++ m0) (s1 : ∀ p o, F p = some o → F2 p = some o) (s2 : ∀ p o, F2 p = some o → H p = some o) (s3 : ∀ p, p ∈ m0 → F p = none → F2 p = none) (s4 : ∀ p o, G p = some o → F2 p = none) : Rel K G F2 m0 (trunc m0.length h) H := by
  have hl : m0.length ≤ h.length := by rw [← rl.len, em, List.length_append]; omega
  have sub : ∀ p, p ∈ m0 → p ∈ m := fun p hp => by rw [em]; exact List.mem_append_right _ hp
  refine ⟨fun p o e => ⟨(rl.kp p o e).1, s4 p o e, fun z => (rl.kp p o e).2.2 (sub p z)⟩, s2, (trunc_len hl).symm, ?_, fun p hp => rl.on p (sub p hp), fun a c p hc hp => ?_⟩
  · have := rl.nd
    rw [em] at this
    exact (List.nodup_append.mp this).2.1
  · have ha : a < m0.length := get_lt hp
    rw [get_trunc hl ha] at hc
    have hp' : MP.get m a = some p := by rw [em, get_app ha]; exact hp
    obtain ⟨k, b⟩ := rl.cell a c p hc hp'
    refine ⟨?_, b⟩
    have chg : ∀ {es : List D} {ws : List V}, belows a es = true → Rps K F m es ws → Rps K F2 m0 es ws := fun hb hr =>
      Rps.chg s1 (fun a' p' hlt hg => by
        rw [em, get_app (by omega)] at hg
        exact hg) hb hr
    cases c with
    | lst ds => obtain ⟨f, vs, e, r⟩ := k; exact ⟨s3 p (get_mem hp) f, vs, e, chg b r⟩
    | dic ks ds =>
      obtain ⟨f, kvs, e, ek, r⟩ := k
      have b : (belows a ks && belows a ds) = true := b
      rw [Bool.and_eq_true] at b
      exact ⟨s3 p (get_mem hp) f, kvs, e, ek, chg b.2 r⟩
    | dead => trivial
noncomputable def frzF (F : Hp) (l : List Addr) (H : Hp) : Hp := fun p => match F p with
  | some o => some o
  | none => if p ∈ l then H p else none
section
variable {l : List Addr}
theorem frzF_1 : ∀ p o, F p = some o → frzF F l H p = some o := fun p o e => by unfold frzF; rw [e]
theorem frzF_2 (rl : Rel K G F m h H) : ∀ p o, frzF F l H p = some o → H p = some o := fun p o e => by
  unfold frzF at e
  split at e
  · rename_i o' e'; cases e; exact rl.sub _ _ e'
  · split at e
    · exact e
    · cases e
theorem frzF_3 {p : Addr} (h1 : p ∉ l) (h2 : F p = none) : frzF F l H p = none := by
  unfold frzF
  rw [h2]
  exact if_neg h1
theorem frzF_4 {p : Addr} {o : HO} (h1 : p ∈ l) (h2 : H p = some o) (rl : Rel K G F m h H) : frzF F l H p = some o := by
  unfold frzF
  split
  · rename_i o' e
    have := rl.sub _ _ e
    rw [this] at h2; exact h2
  · rw [if_pos h1]; exact h2
end
theorem get_of_mem {α : Type} : ∀ {m0 : List α} {p : α}, p ∈ m0 → ∃ b, b < m0.length ∧ MP.get m0 b = some p
  | [], _, hm => by simp at hm
  | q :: m0, p, hm => by
    rcases List.mem_cons.mp hm with rfl | hm
    · exact ⟨m0.length, by simp, get_self⟩
    · obtain ⟨b, hb, hg⟩ := get_of_mem hm
      exact ⟨b, by simp; omega, by rw [get_old hb]; exact hg⟩
theorem keys_frzN {n : Nat} {h' : Hea} : ∀ {ks ks' : List D} {kvs : List (Key × V)}, ks.map keyOf = kvs.map (fun p => some p.1) → ks.mapM (frzN h' n) = some ks' → ks' = ks
  | [], ks', _, _, e => by cases e; rfl
  | k :: ks, ks', [], h, _ => by simp at h
  | k :: ks, ks', p :: kvs, h, e => by
    obtain ⟨x, xs, e1, e2, rfl⟩ := mapM_cons' e
    simp only [List.map_cons, List.cons.injEq] at h
    rw [keys_frzN h.2 e2]
    have h1 := h.1
    have hb : below n k = true := by cases k <;> first | (simp [keyOf] at h1; done) | (unfold below; rfl)
    unfold frzN at e1
    rw [if_pos hb] at e1
    cases e1
    rfl
theorem leave_ok {W : Value → Option Addr → Hp → Prop} {F0 : Hp} {m0 : List Addr} {d : D} {v : V} {Q : VK} (p : Pst K XT W G F0 m0 (leave m0.length d h) (ZV K Q)) (x : Ext F0 m0 F m) (rl : Rel K G F m h H) (r : Rp K F m d v) : Q v H := by
  obtain ⟨l, em⟩ := x.app
  have hl : m0.length ≤ h.length := by rw [← rl.len, em, List.length_append]; omega
  have nd := rl.nd
  rw [em] at nd
  have ndl := List.nodup_append.mp nd
  have nl0 : ∀ p, p ∈ m0 → p ∉ l := fun p h1 h2 => ndl.2.2 p h2 p h1 rfl
  have lm : ∀ p, p ∈ l → p ∈ m := fun p hp => by rw [em]; exact List.mem_append_left _ hp
  have inl : ∀ a p, m0.length ≤ a → MP.get m a = some p → p ∈ l := fun a p ha hg => by
    have hm := get_mem hg
    rw [em] at hm
    rcases List.mem_append.mp hm with hm | hm
    · exact hm
    · exfalso
      have := get_of_mem hm
      obtain ⟨b, hb, hgb⟩ := this
      have hgb' : MP.get m b = some p := by rw [em, get_app hb]; exact hgb
      have := get_inj rl.nd hg hgb'
      omega
  have low : ∀ a p, a < m0.length → MP.get m a = some p → MP.get m0 a = some p := fun a p ha hg => by
    rw [em, get_app ha] at hg; exact hg
  have nG : ∀ {l' : List Addr}, (∀ p, p ∈ l' → p ∈ l) → ∀ p o, G p = some o → frzF F l' H p = none := fun {l'} hs p o e =>
    frzF_3 (fun z => (rl.kp p o e).2.2 (lm p (hs p z))) (rl.kp p o e).2.1
  -- all new cells frozen
  have fin : ∀ {d' : D}, frzN h m0.length d = some d' → Pst K XT W G F0 m0 (.ok d' (trunc m0.length h)) (ZV K Q) → Q v H := fun {d'} ed p => by
    obtain ⟨r', _⟩ := frzN_ok (G9 := frzF F l H) (n := m0.length) (b := m.length) (m' := m0) rl (frzF_1) low (fun a p o h1 _ hg hp => frzF_4 (inl a p h1 hg) hp rl) (Rp.below r) ed r
    exact p (frzF F l H) m0 H ⟨fun q o e => frzF_1 q o (x.sub q o e), [], rfl⟩ (rel_trunc rl em frzF_1 (frzF_2 rl) (fun q hq hF => frzF_3 (nl0 q hq) hF) (nG fun _ z => z)) v r'
  cases d with
  | ref a =>
    unfold leave at p
    dsimp only at p
    obtain ⟨q, rfl, g⟩ := rp_ref r
    by_cases ha : a < m0.length
    · rw [if_pos ha] at p
      exact p F m0 H ⟨x.sub, [], rfl⟩ (rel_trunc rl em (fun _ _ e => e) rl.sub (fun _ _ e => e) (fun p o e => (rl.kp p o e).2.1)) _ (mk_ref (low a q ha g))
    · rw [if_neg ha] at p
      have hq := inl a q (Nat.le_of_not_lt ha) g
      have ser : ∀ q', q' ∈ l.filter (fun z => decide (z ≠ q)) → q' ∈ l := fun q' hz => (List.mem_filter.mp hz).1
      have frz : ∀ b p o, m0.length ≤ b → b < a → MP.get m b = some p → H p = some o → frzF F (l.filter (fun z => decide (z ≠ q))) H p = some o := fun b p o h1 h2 hg hp =>
        frzF_4 (List.mem_filter.mpr ⟨inl b p h1 hg, decide_eq_true fun z => by
          have := get_inj rl.nd (z ▸ hg) g
          omega⟩) hp rl
      have q0 : q ∉ m0 := fun z => nl0 q z hq
      have gq : G q = none := by
        cases e : G q with
        | none => rfl
        | some u => exact absurd (get_mem g) (rl.kp q u e).2.2
      have rt := rel_trunc (F2 := frzF F (l.filter (fun z => decide (z ≠ q))) H) rl em frzF_1 (frzF_2 rl) (fun p hp hF => frzF_3 (fun z => nl0 p hp (ser p z)) hF) (nG ser)
      have fq : F q = none → frzF F (l.filter (fun z => decide (z ≠ q))) H q = none := fun hF => frzF_3 (fun z => by have := (List.mem_filter.mp z).2; simp at this) hF
      have xx : Ext F0 m0 (frzF F (l.filter (fun z => decide (z ≠ q))) H) (q :: m0) := ⟨fun p o e => frzF_1 p o (x.sub p o e), [q], rfl⟩
      have hm : ∀ b p, b < m0.length → MP.get m b = some p → MP.get (q :: m0) b = some p := fun b p hb hg => by rw [get_old hb]; exact low b p hb hg
      cases hc : MP.get h a with
      | none => rw [hc] at p; exact p.elim
      | some c =>
        rw [hc] at p
        obtain ⟨cr, cb⟩ := rl.cell a c q hc g
        cases c with
        | lst ds =>
          dsimp only at p
          obtain ⟨hF, vs, hv, rs⟩ := cr
          cases ed : ds.mapM (frzN h m0.length) with
          | none => rw [ed] at p; exact p.elim
          | some ds' =>
            rw [ed] at p
            obtain ⟨rs', bl⟩ := frzN_all (G9 := frzF F (l.filter (fun z => decide (z ≠ q))) H) (n := m0.length) (b := a) (m' := q :: m0) rl frzF_1 hm frz cb ed rs
            obtain ⟨rl2, _⟩ := rt.upC (c := .lst ds') (o := .lst vs) (fq hF) q0 gq ⟨fq hF, vs, upd_same, rs'⟩ (by rw [trunc_len hl]; exact bl)
            rw [upd_id hv] at rl2
            exact p _ _ _ xx rl2 _ (mk_ref get_self)
        | dic ks ds =>
          dsimp only at p
          obtain ⟨hF, kvs, hv, ek, rs⟩ := cr
          have cb : (belows a ks && belows a ds) = true := cb
          rw [Bool.and_eq_true] at cb
          cases e1 : ks.mapM (frzN h m0.length) with
          | none => rw [e1] at p; exact p.elim
          | some ks' =>
            cases ed : ds.mapM (frzN h m0.length) with
            | none => rw [e1, ed] at p; exact p.elim
            | some ds' =>
              rw [e1, ed] at p
              have e2 := keys_frzN ek e1
              subst e2
              obtain ⟨rs', bl⟩ := frzN_all (G9 := frzF F (l.filter (fun z => decide (z ≠ q))) H) (n := m0.length) (b := a) (m' := q :: m0) rl frzF_1 hm frz cb.2 ed rs
              obtain ⟨rl2, _⟩ := rt.upC (c := .dic ks' ds') (o := .dK kvs) (fq hF) q0 gq ⟨fq hF, kvs, upd_same, ek, rs'⟩ (by
                show (belows _ _ && belows _ _) = true
                rw [keys_below ek, trunc_len hl, bl]; rfl)
              rw [upd_id hv] at rl2
              exact p _ _ _ xx rl2 _ (mk_ref get_self)
        | dead => exact p.elim
  | _ =>
    unfold leave at p
    dsimp only at p
    split at p
    · rename_i d' ed
      exact fin ed p
    · exact p.elim
end

/-! ### all defs -/
abbrev psOf (T : Tab) (g : Nat) : List Str := T.ps.getD g []
structure DefAt (T : Tab) (Fs : List Fn) (K : PySem.W.Frag) (mg : Str → Option Value) (x : Str) (g : Nat) (f : Addr) (fd : FuncData) : Prop where
  bd : ∀ us : List Value, us.length = (psOf T g).length → bindArgs fd ⟨us, []⟩ = pure ((psOf T g).zip us)
  mg : mg x = some (.ref f)
  ok : ∃ st N fn, L2.Fun K x x st f fd ∧ FnScope N (psOf T g) (defScope st) ∧ Fs[g]? = some fn ∧ fn.np = (psOf T g).length ∧ fn.ns = N.length ∧ ckB T N (defScope st) fn.body (defBody st) = true
def DefOk (T : Tab) (Fs : List Fn) (K : PySem.W.Frag) (mg : Str → Option Value) (x : Str) (g : Nat) : Prop := ∃ f fd, DefAt T Fs K mg x g f fd
section
variable {P : Program} {w : World} {K : PySem.W.Frag} {mg : Str → Option Value} {base : Heap} {T : Tab} {XT : List Value} {Fs : List Fn}
theorem er_start {F : Hp} {m : List Addr} {ds : List D} {vs : List V} {n : Nat} {N : List Str} (hn : n = N.length) (r : Rps K F m ds vs) : Er K F m (MP.start n ds) (L2.start N vs) := by
  subst hn
  have hl := r.len
  refine ⟨?_, fun i d e => ?_⟩
  · unfold MP.start L2.start
    rw [List.length_append, List.length_append, List.length_map, List.length_map, List.length_replicate, List.length_replicate, hl]
  · unfold MP.start at e
    have hi : i < ds.length := by
      by_cases hi : i < ds.length
      · exact hi
      · rw [List.getElem?_append_right (by simpa using hi), List.getElem?_replicate] at e
        split at e <;> cases e
    rw [List.getElem?_append_left (by simpa using hi), List.getElem?_map] at e
    obtain ⟨d', e1, e2⟩ := Option.map_eq_some_iff.mp e
    cases e2
    obtain ⟨v, ev, rv⟩ := r.get e1
    refine ⟨v, ?_, rv⟩
    unfold L2.start
    rw [List.getElem?_append_left (by rw [List.length_map, ← hl]; exact hi), List.getElem?_map, ev]; rfl
theorem body_of {C : CT} {fn : Fn} {ds : List D} {h : Hea} {G F : Hp} {m : List Addr} {Q : VK} {E : XK} (hm : m.length = h.length) (q : Pst K XT E G F m (exF C fn ds h) (ZV K Q)) :
    Pst K XT WF0 G F m (exB C fn.body (MP.start fn.ns ds) h) (ZF K XT (fun cls d _ H => E cls d H) { nx := fun _ H' => Q .non H', rt := Q }) := by
  unfold exF at q
  split at q
  · cases e : exB C fn.body (MP.start fn.ns ds) h with
    | ex x h' => rw [e] at q; exact q.elim
    | stuck => rw [e] at q; exact q.elim
    | ok fl h' =>
      rw [e] at q
      intro F' m' H' x rl
      cases fl with
      | nx ρ => exact fun σ' er => leave_ok (by rw [hm]; exact q) x rl mk_non
      | rt d =>
        intro v rv
        have q : Pst K XT E G F m (if fn.raw then .ok d h' else leave h.length d h') (ZV K Q) := q
        split at q
        · exact q F' m' H' x rl v rv
        · exact leave_ok (by rw [hm]; exact q) x rl rv
      | bk ρ => exact q.elim
      | ct ρ => exact q.elim
      | xc xx ρ =>
        intro σ' cls d er xr
        obtain ⟨l, em⟩ := x.app
        have q : Pst K XT E G F m (.ex xx (trunc h.length h')) (ZV K Q) := q
        rw [← hm] at q
        exact q F' m H' cls d ⟨x.sub, [], rfl⟩ (rel_trunc rl em (fun _ _ e => e) rl.sub (fun _ _ e => e) (fun p o e => (rl.kp p o e).2.1)) xr
  · exact q.elim
theorem exF_np {C : CT} {fn : Fn} {ds : List D} {h : Hea} (hn : ds.length ≠ fn.np) : exF C fn ds h = .stuck := by
  unfold exF
  rw [if_neg hn]
theorem all_ok (hd : ∀ x g, T.fns.lookup x = some g → DefOk T Fs K mg x g) (hb : ∀ x, T.blts.contains x = true → mg x = none) (hcs : ∀ x i, T.cons.lookup x = some i → ∃ t, mg x = some (.int i t)) : ∀ (k : Nat) (x : Str) (g : Nat) (f : Addr) (fd : FuncData), DefAt T Fs K mg x g f fd →
    FnG P w K mg base (L2.CX P w) k f fd (psOf T g) (spI K XT (run Fs k) g (psOf T g).length) ∧ PySem.W.keepIn K (.ref f) = true ∧ ∀ ds h, ds.length ≠ (psOf T g).length → run Fs k g ds h = .stuck
  | 0, x, g, f, fd, hx => by
    obtain ⟨st, N, fn, Fu, S, e1, e2, e3, ck⟩ := hx.ok
    have no : ∀ vs H Q E, ¬ spI K XT (run Fs 0) g (psOf T g).length vs H Q E := fun vs H Q E hh => by
      obtain ⟨_, G, F, m, h, ds, rl, rs, q⟩ := hh
      unfold run at q
      exact q.elim
    exact ⟨⟨fun vs H Q E h => h.1, fun A outer s H args us vs Q E _ _ _ _ _ h => absurd h (no vs H Q E)⟩, Fu.kp, fun ds h _ => rfl⟩
  | k + 1, x, g, f, fd, hx => by
    obtain ⟨st, N, fn, Fu, S, e1, e2, e3, ck⟩ := hx.ok
    have er : ∀ ds h, run Fs (k + 1) g ds h = exF (run Fs k) fn ds h := fun ds h => by
      show (match Fs[g]? with | some f => exF (run Fs k) f ds h | none => .stuck) = _
      rw [e1]
    refine ⟨Fun_okG Fu S (fun vs H Q E h => h.1) (fun cdv A outer s H vs Q E hgd hr hsp => ?_), Fu.kp, fun ds h hn => by rw [er]; exact exF_np (by rw [e2]; exact hn)⟩
    obtain ⟨hl, G, F, m, h, ds, rl, rs, q⟩ := hsp
    rw [er] at q
    refine ⟨tB K XT (run Fs k) (fun cls d _ H => E cls d H) fn.body, ?_, G, F, m, h, MP.start fn.ns ds, rl, er_start e3 rs, body_of rl.len q⟩
    have hun := hr.un
    have gd : Gd T XT N (cxOf (L2.CX P w) P w K mg base N x (defScope st) f cdv A outer s H E) (run Fs k) none (defScope st) (fun cls d _ H => E cls d H) := by
      refine ⟨rfl, S.nd, rfl, rfl, fun y hy => ?_, hb, fun y g' hy => ?_, hcs, ?_, hgd, takes_of rfl rfl rfl rfl⟩
      · have hy : locB (defScope st) y = true := hy
        refine ⟨?_, .inl rfl⟩
        show L2.Loc (defScope st) y
        unfold locB at hy
        unfold L2.Loc
        split at hy
        · rename_i e; exact .inl e
        · rename_i e; exact .inr e
        · cases hy
      · obtain ⟨f', fd', D'⟩ := hd y g' hy
        obtain ⟨F', k', n'⟩ := all_ok hd hb hcs k y g' f' fd' D'
        exact ⟨k, f', fd', _, F', hr, D'.mg, k', .all D'.bd, n'⟩
      · show (A.deeper _).units + 70 < cLine
        omega
    exact sB fn.body gd (passes_of rfl) ck
/-- a def as it stands behind the top -/
theorem def_mk {x : Str} {st : Stmt} {f : Addr} {N : List Str} {g : Nat} {fn : Fn} {h : Heap} {od an : Option Addr} {sl : Array (Option Value)} {oc kV dc pm cd ct : Value} (X : K.In h) (G : h.Ns mainGlobals mg)
    (a : PySem.W.nsIn K mainGlobals x = some (some (.ref f))) (l : K.lookup f = some ⟨oc, od, .func (PySem.W.fnOf x x (defArgs st) (defBody st) (defScope st) .none kV dc pm an cd ct), sl⟩) (c : PySem.W.codeIn K cd x = true) (k : PySem.W.keepIn K (.ref f) = true)
    (S : FnScope N (psOf T g) (defScope st)) (hb : ∀ (kV doc pm : Value) (an : Option Addr) (cdv ct : Value) (us : List Value), us.length = (psOf T g).length → bindArgs (PySem.W.fnOf x x (defArgs st) (defBody st) (defScope st) .none kV doc pm an cdv ct) ⟨us, []⟩ = pure ((psOf T g).zip us))
    (e1 : Fs[g]? = some fn) (e2 : fn.np = (psOf T g).length) (e3 : fn.ns = N.length) (ck : ckB T N (defScope st) fn.body (defBody st) = true) : DefOk T Fs K mg x g :=
  ⟨f, _, fun us hl => hb _ _ _ _ _ _ us hl, PySem.W.mg_of X G a, st, N, fn, fun_mk l c k, S, e1, e2, e3, ck⟩
end
theorem look_mem {α β : Type} [BEq α] [LawfulBEq α] {l : List (α × β)} {x : α} {g : β} (h : l.lookup x = some g) : (x, g) ∈ l := by
  induction l with
  | nil => cases h
  | cons p l ih =>
    obtain ⟨a, b⟩ := p
    rw [List.lookup_cons] at h
    by_cases e : (x == a) = true
    · rw [e] at h
      cases h
      rw [eq_of_beq e]
      exact List.mem_cons_self
    · have e : (x == a) = false := by simpa using e
      rw [e] at h
      exact List.mem_cons_of_mem _ (ih h)
/-- a law: its own text tells True at every script -/
theorem law_end {l : PySem.W.OpenLaw} {k : Nat} {q : Program} {loose : List Str} {XP : (Str → Option Value) → Heap → Prop} {YP : World → Heap → Prop} {d : DefRec} {K : Params → PySem.W.Frag} {T : Tab} {XT : List Value} {Fs : List Fn} {gl : Nat} {x : Str}
    (hn : l.most = some 63) (hdf : d.params.defaults = []) (hr : Room k callerA) (hY : ∀ (w : World) (h : Heap), YP w h → (K w.params).In h) (hg : T.fns.lookup d.name = some gl) (hp : psOf T gl = [x])
    (F : ∀ (w : World) (mg : Str → Option Value) (fa : Addr) (h : Heap), (K w.params).In h → h.Ns mainGlobals mg → mg d.name = some (.ref fa) → (∀ p ∈ T.fns, DefOk T Fs (K w.params) mg p.1 p.2) ∧ (∀ y ∈ T.blts, mg y = none) ∧ ∀ p ∈ T.cons, ∃ t, mg p.1 = some (.int p.2 t))
    (hrun : ∀ ns : List Int, ns.length ≤ 63 → (∀ z ∈ ns, Builtin.Int.intBits z ≤ 1048576) → ∃ h', run Fs k gl [.scr ns] [] = .ok (.bl true) h') :
    PySem.W.WalkO q loose XP YP l.row.toRowW d [] (fun f vs => PySem.call f vs) := by
  refine walk_ofG (n := 63) (k := k) (x := x) (Cf := fun w => L2.CX l.prog w) (pr := fun w => spI (K w.params) XT (run Fs k) gl 1) hn (by decide) hdf hr hY (fun w mg fa h KX G hmg => ?_) (fun w H a ns hl hb _ hS => ?_) (fun w H s e s' z => ?_)
  · obtain ⟨h1, h2, h3⟩ := F w mg fa h KX G hmg
    obtain ⟨f, fd, D1⟩ := h1 (d.name, gl) (look_mem hg)
    have hm := D1.mg
    have b := D1.bd
    rw [hp] at b
    have e : f = fa := by rw [hm] at hmg; cases hmg; rfl
    subst e
    refine ⟨fd, fun s u => .of_eq (b [u] rfl), fun base KB GB => ?_⟩
    have := (all_ok (P := l.prog) (w := w) (base := base) (XT := XT) (fun x g hx => h1 (x, g) (look_mem hx)) (fun y hy => h2 y (List.contains_iff_mem.mp hy)) (fun y i hy => h3 (y, i) (look_mem hy)) k d.name gl f fd D1).1
    rw [hp] at this
    exact this
  · obtain ⟨h', e⟩ := hrun ns hl hb
    refine ⟨rfl, fun _ => none, H, [], [], [.scr ns], ⟨fun _ _ e => (nomatch e), fun _ _ e => e, rfl, List.nodup_nil, fun p hp => (nomatch hp), fun a c p hc _ => by cases hc⟩, .mk (by unfold Rp; exact ⟨a, rfl, hS⟩) .mk0, ?_⟩
    rw [e]
    exact fun F' m' H' x rl v rv => rp_bl rv
  · obtain ⟨_, _, _, _, _, _, _, _, _, _, _, _, z⟩ := z
    exact z.elim
end MP

/-! What a run brings about: rules. -/
namespace MP
open PySem

/-! ### ends -/
/-- what is not to be rewritten yet: an argument on which a later one's type hangs -/
inductive Dum {α : Sort _} (x : α) : Type where | mk
def WPm {α : Type} (r : R α) (Q : α → Hea → Prop) (E : Xc → Hea → Prop) : Prop := match r with
  | .ok a h => Q a h
  | .ex x h => E x h
  | .stuck => False
structure WP {α : Type} (r : R α) (Q : α → Hea → Prop) (E : Xc → Hea → Prop) (_t : Dum Q := .mk) (_u : Dum E := .mk) : Prop where
  m : WPm r Q E
abbrev NX : Xc → Hea → Prop := fun _ _ => False
section
variable {α β : Type} {a : α} {h : Hea} {Q Q' : α → Hea → Prop} {E : Xc → Hea → Prop} {r : R α}
theorem WP_ok : WP (.ok a h) Q E = Q a h := propext ⟨fun w => w.m, fun q => ⟨q⟩⟩
theorem WP_ex {x : Xc} : WP (.ex x h) Q E = E x h := propext ⟨fun w => w.m, fun q => ⟨q⟩⟩
theorem WP_stuck : WP (.stuck : R α) Q E = False := propext ⟨fun w => w.m, fun q => ⟨q⟩⟩
theorem WPe {E : Xc → Hea → Prop} (e : ∀ a h, Q a h = Q' a h) : WP r Q E = WP r Q' E := by
  have : Q = Q' := funext fun a => funext fun h => e a h
  rw [this]
theorem WP_bnd {f : α → Hea → R β} {Q : β → Hea → Prop} : WP (r.bnd f) Q E = WP r (fun a h => WP (f a h) Q E) E := by
  cases r with
  | ok a h => rw [WP_ok]; rfl
  | ex x h => rw [WP_ex]; exact WP_ex
  | stuck => rw [WP_stuck]; exact WP_stuck
theorem WP_bns {f : α → Hea → R Fl} {ρ : Env} {Q : Fl → Hea → Prop} : WP (r.bns ρ f) Q E = WP r (fun a h => WP (f a h) Q E) (fun x h => Q (.xc x ρ) h) := by
  cases r with
  | ok a h => rw [WP_ok]; rfl
  | ex x h => rw [WP_ex]; exact WP_ok
  | stuck => rw [WP_stuck]; exact WP_stuck
theorem WP_nox : WP r.nox Q E = WP r Q (fun _ _ => False) := by
  cases r with
  | ok a h => rw [WP_ok]; exact WP_ok
  | ex x h => rw [WP_ex]; exact WP_stuck
  | stuck => rw [WP_stuck]; exact WP_stuck
theorem WP_lift {o : Option α} : WP (lift o h) Q E = match o with | some a => Q a h | none => False := by
  cases o with
  | none => exact WP_stuck
  | some a => exact WP_ok
theorem WP.mono (w : WP r Q E) (k : ∀ a h, Q a h → Q' a h) : WP r Q' E := by
  obtain ⟨w⟩ := w
  cases r with
  | ok a h => exact ⟨k a h w⟩
  | ex x h => exact ⟨w⟩
  | stuck => exact ⟨w⟩
theorem WP.mono2 {E' : Xc → Hea → Prop} (w : WP r Q E) (k : ∀ a h, Q a h → Q' a h) (e : ∀ x h, E x h → E' x h) : WP r Q' E' := by
  obtain ⟨w⟩ := w
  cases r with
  | ok a h => exact ⟨k a h w⟩
  | ex x h => exact ⟨e x h w⟩
  | stuck => exact ⟨w⟩
theorem WP.nx {E' : Xc → Hea → Prop} (w : WP r Q NX) (k : ∀ a h, Q a h → Q' a h) : WP r Q' E' := w.mono2 k fun _ _ z => z.elim
theorem WP.run (w : WP r Q NX) : ∃ a h, r = .ok a h ∧ Q a h := by
  obtain ⟨w⟩ := w
  cases r with
  | ok a h => exact ⟨a, h, rfl, w⟩
  | ex x h => exact w.elim
  | stuck => exact w.elim
theorem WP_ite {c : Prop} [Decidable c] {x y : R α} : WP (if c then x else y) Q E = if c then WP x Q E else WP y Q E := by split <;> rfl
end

/-! ### heaps -/
section
variable {α : Type} {c x y : α} {h h' : List α} {a b : Nat}
theorem get_top : get (c :: h) h.length = some c := get_self
theorem get_und (l : a < h.length) : get (c :: h) a = get h a := get_old l
theorem put_top : put (c :: h) h.length x = x :: h := by unfold put; rw [if_pos rfl]
theorem put_und (l : a < h.length) : put (c :: h) a x = c :: put h a x := by
  show (if a = h.length then x :: h else c :: put h a x) = _
  rw [if_neg (by omega)]
theorem put_put : put (put h a x) a y = put h a y := by
  induction h with
  | nil => rfl
  | cons c h ih =>
    by_cases e : a = h.length
    · subst e; rw [put_top, put_top, put_top]
    · have pc : ∀ (c x : α) (h : List α) (a : Nat), put (c :: h) a x = if a = h.length then x :: h else c :: put h a x := fun _ _ _ _ => rfl
      rw [pc, pc, if_neg e, if_neg e, pc, put_len, if_neg e, ih]
theorem get_put_same (l : a < h.length) : get (put h a x) a = some x := by rw [get_put, if_pos ⟨rfl, l⟩]
theorem get_put_ne (n : b ≠ a) : get (put h a x) b = get h b := by rw [get_put, if_neg (fun z => n z.1)]
theorem trunc_self : trunc h.length h = h := by unfold trunc; simp
theorem trunc_cons (l : a ≤ h.length) : trunc a (c :: h) = trunc a h := by
  unfold trunc
  rw [List.length_cons, show h.length + 1 - a = (h.length - a) + 1 by omega, List.drop_succ_cons]
theorem trunc_put : trunc h.length (put h a x) = put h a x := by
  have := trunc_self (h := put h a x)
  rw [put_len] at this
  exact this
end

/-! ### a def run -/
/-- what a def's body tells, on leaving -/
def Ret (n : Nat) (Q : D → Hea → Prop) (E : Xc → Hea → Prop) : Fl → Hea → Prop := fun fl h => match fl with
  | .nx _ => WP (leave n .non h) Q E
  | .rt d => WP (leave n d h) Q E
  | .xc x _ => E x (trunc n h)
  | _ => False
theorem WP_exF {C : CT} {f : Fn} {ds : List D} {h : Hea} {Q : D → Hea → Prop} {E : Xc → Hea → Prop} (hl : ds.length = f.np) (w : WP (exB C f.body (start f.ns ds) h) (Ret h.length Q E) (fun _ _ => False)) (hr : f.raw = false := by rfl) : WP (exF C f ds h) Q E := by
  unfold exF
  rw [if_pos hl, hr]
  obtain ⟨w⟩ := w
  cases e : exB C f.body (start f.ns ds) h with
  | ok fl h' =>
    rw [e] at w
    cases fl with
    | nx _ => exact w
    | rt _ => exact w
    | bk _ => exact (show False from w).elim
    | ct _ => exact (show False from w).elim
    | xc _ _ => exact ⟨w⟩
  | ex x h' => rw [e] at w; exact (show False from w).elim
  | stuck => rw [e] at w; exact (show False from w).elim
/-- of a def whose cells stay -/
def RetR (n : Nat) (Q : D → Hea → Prop) (E : Xc → Hea → Prop) : Fl → Hea → Prop := fun fl h => match fl with
  | .nx _ => WP (leave n .non h) Q E
  | .rt d => Q d h
  | .xc x _ => E x (trunc n h)
  | _ => False
theorem WP_exFr {C : CT} {f : Fn} {ds : List D} {h : Hea} {Q : D → Hea → Prop} {E : Xc → Hea → Prop} (hl : ds.length = f.np) (w : WP (exB C f.body (start f.ns ds) h) (RetR h.length Q E) (fun _ _ => False)) (hr : f.raw = true := by rfl) : WP (exF C f ds h) Q E := by
  unfold exF
  rw [if_pos hl, hr]
  obtain ⟨w⟩ := w
  cases e : exB C f.body (start f.ns ds) h with
  | ok fl h' =>
    rw [e] at w
    cases fl with
    | nx _ => exact w
    | rt _ => exact ⟨w⟩
    | bk _ => exact (show False from w).elim
    | ct _ => exact (show False from w).elim
    | xc _ _ => exact ⟨w⟩
  | ex x h' => rw [e] at w; exact (show False from w).elim
  | stuck => rw [e] at w; exact (show False from w).elim
theorem run_at {Fs : List Fn} {k g : Nat} {f : Fn} (e : Fs[g]? = some f) (ds : List D) (h : Hea) : run Fs (k + 1) g ds h = exF (run Fs k) f ds h := by
  show (match Fs[g]? with | some f => exF (run Fs k) f ds h | none => .stuck) = _
  rw [e]
section
variable {n : Nat} {h : Hea} {Q : D → Hea → Prop} {E : Xc → Hea → Prop}
theorem frzN_below {d : D} (b : below n d = true) : frzN h n d = some d := by unfold frzN; rw [if_pos b]
theorem leave_int {i : Int} : leave n (.int i) h = .ok (.int i) (trunc n h) := by unfold leave; simp only [frzN_below (d := .int i) (by unfold below; rfl)]
theorem leave_bl {i : Bool} : leave n (.bl i) h = .ok (.bl i) (trunc n h) := by unfold leave; simp only [frzN_below (d := .bl i) (by unfold below; rfl)]
theorem leave_non : leave n .non h = .ok .non (trunc n h) := by unfold leave; simp only [frzN_below (d := .non) (by unfold below; rfl)]
theorem leave_str {x : List Nat} : leave n (.str x) h = .ok (.str x) (trunc n h) := by unfold leave; simp only [frzN_below (d := .str x) (by unfold below; rfl)]
theorem leave_tup {ds : List D} (b : belows n ds = true) : leave n (.tup ds) h = .ok (.tup ds) (trunc n h) := by unfold leave; simp only [frzN_below (d := .tup ds) (by unfold below; exact b)]
theorem leave_lst {ds : List D} (b : belows n ds = true) : leave n (.lst ds) h = .ok (.lst ds) (trunc n h) := by unfold leave; simp only [frzN_below (d := .lst ds) (by unfold below; exact b)]
theorem leave_old {a : Nat} (l : a < n) : leave n (.ref a) h = .ok (.ref a) (trunc n h) := by unfold leave; simp only [if_pos l]
theorem mapM_below : ∀ {ds : List D}, belows n ds = true → ds.mapM (frzN h n) = some ds
  | [], _ => rfl
  | d :: ds, b => by
    obtain ⟨b1, b2⟩ := belows_cons b
    rw [List.mapM_cons, frzN_below b1, mapM_below b2]; rfl
theorem leave_new {a : Nat} {ds : List D} (l : n ≤ a) (g : get h a = some (.lst ds)) (b : belows n ds = true) : leave n (.ref a) h = .ok (.ref n) (.lst ds :: trunc n h) := by
  unfold leave
  simp only [if_neg (Nat.not_lt.mpr l), g, mapM_below b]
theorem leave_newD {a : Nat} {ks ds : List D} (l : n ≤ a) (g : get h a = some (.dic ks ds)) (b1 : belows n ks = true) (b : belows n ds = true) : leave n (.ref a) h = .ok (.ref n) (.dic ks ds :: trunc n h) := by
  unfold leave
  simp only [if_neg (Nat.not_lt.mpr l), g, mapM_below b, mapM_below b1]
end
end MP

/-! What an operation brings about: rows for rewriting. -/
namespace MP
open PySem

section
variable {h : Hea} {i j : Int} {n : Bool} {a b : Nat} {d : D} {ds es : List D}
/-! ### below -/
@[simp] theorem below_int : below a (.int i) = true := by unfold below; rfl
@[simp] theorem below_bl {k : Bool} : below a (.bl k) = true := by unfold below; rfl
@[simp] theorem below_non : below a .non = true := by unfold below; rfl
@[simp] theorem below_str {x : List Nat} : below a (.str x) = true := by unfold below; rfl
@[simp] theorem below_scr {x : List Int} : below a (.scr x) = true := by unfold below; rfl
@[simp] theorem below_tup_eq : below a (.tup ds) = belows a ds := by rw [below]
@[simp] theorem below_lst_eq : below a (.lst ds) = belows a ds := by rw [below]
@[simp] theorem below_ref_eq : below a (.ref b) = decide (b < a) := by rw [below]
@[simp] theorem belows_nil : belows a [] = true := by rw [belows]
@[simp] theorem belows_cons_eq : belows a (d :: ds) = (below a d && belows a ds) := by rw [belows]
@[simp] theorem belows_append : belows a (ds ++ es) = (belows a ds && belows a es) := by
  induction ds with
  | nil => simp
  | cons d ds ih => rw [List.cons_append, belows_cons_eq, belows_cons_eq, ih, Bool.and_assoc]
theorem belows_all : belows a ds = true ↔ ∀ d ∈ ds, below a d = true := belows_mem
theorem belows_map {α : Type} {f : α → D} {xs : List α} (k : ∀ x ∈ xs, below a (f x) = true) : belows a (xs.map f) = true := by
  rw [belows_mem]
  intro d hd
  obtain ⟨x, hx, rfl⟩ := List.mem_map.mp hd
  exact k x hx
@[simp] theorem belows_ints {xs : List Int} : belows a (xs.map D.int) = true := belows_map fun _ _ => below_int

/-! ### arithmetic -/
@[simp] theorem bop_add : bop .add h (.int i) (.int j) = some (.int (i + j)) := rfl
@[simp] theorem bop_sub : bop .sub h (.int i) (.int j) = some (.int (i - j)) := rfl
@[simp] theorem bop_mul : bop .mul h (.int i) (.int j) = if (small i || small j) = true then some (.int (i * j)) else none := rfl
theorem if_iff {α : Type} {p q : Prop} [Decidable p] [Decidable q] {x y : α} (e : p ↔ q) : (if p then x else y) = if q then x else y := by
  by_cases h : p
  · rw [if_pos h, if_pos (e.mp h)]
  · rw [if_neg h, if_neg (fun z => h (e.mpr z))]
@[simp] theorem bop_fdiv : bop .fdiv h (.int i) (.int j) = if j ≠ 0 ∧ -1073741824 < j ∧ j < 1073741824 then some (.int (i.fdiv j)) else none := by
  show (if j ≠ 0 ∧ j.natAbs < 1073741824 then some (D.int (i.fdiv j)) else none) = _
  exact if_iff (by omega)
@[simp] theorem bop_mod : bop .mod h (.int i) (.int j) = if j ≠ 0 then some (.int (i.fmod j)) else none := rfl
@[simp] theorem bop_pow : bop .pow h (.int i) (.int j) = if 0 ≤ j ∧ j ≤ 1000000 ∧ -18446744073709551616 < i ∧ i < 18446744073709551616 then some (.int (i ^ j.toNat)) else none := by
  show (if 0 ≤ j ∧ j ≤ 1000000 ∧ i.natAbs < 2 ^ 64 then some (D.int (i ^ j.toNat)) else none) = _
  exact if_iff (by omega)
@[simp] theorem bop_shl : bop .shl h (.int i) (.int j) = if 0 ≤ j ∧ j ≤ 1000000 ∧ -18446744073709551616 < i ∧ i < 18446744073709551616 then some (.int (i * 2 ^ j.toNat)) else none := by
  show (if 0 ≤ j ∧ j ≤ 1000000 ∧ i.natAbs < 2 ^ 64 then some (D.int (i * 2 ^ j.toNat)) else none) = _
  exact if_iff (by omega)
@[simp] theorem bop_shr : bop .shr h (.int i) (.int j) = if 0 ≤ j then some (.int (i / 2 ^ j.toNat)) else none := rfl
@[simp] theorem bop_and : bop .band h (.int i) (.int j) = some (.int (Builtin.bitAnd i j)) := rfl
@[simp] theorem bop_or : bop .bor h (.int i) (.int j) = some (.int (Builtin.bitOr i j)) := rfl
@[simp] theorem bop_xor : bop .bxor h (.int i) (.int j) = some (.int (Builtin.bitXor i j)) := rfl
@[simp] theorem bop_tup : bop .add h (.tup ds) (.tup es) = if ds.length + es.length ≤ SL then some (.tup (ds ++ es)) else none := rfl
@[simp] theorem bop_smul {x : List Nat} : bop .mul h (.str x) (.int j) = if j = 0 then some (.str []) else if j = 1 then some (.str x) else none := rfl
theorem end_ok {x y : List Nat} : mthH .endswith h (.str x) [.str y] = .ok (.bl (endsL x y)) h := rfl
theorem rcv_end {x : List Nat} : rcv .endswith h (.str x) = true := rfl
@[simp] theorem bop_str {x y : List Nat} : bop .add h (.str x) (.str y) = if x.length + y.length ≤ SL then some (.str (x ++ y)) else none := rfl
theorem small_of (h1 : -(2 ^ 64) < i) (h2 : i < 2 ^ 64) : small i = true := by
  unfold small M64
  rw [Bool.and_eq_true, decide_eq_true_eq, decide_eq_true_eq]
  exact ⟨h1, h2⟩

/-! ### equality of data without truths -/
mutual
def nb : D → Bool
  | .non => true | .bl _ => false | .int _ => true | .str x => x.all fun c => decide (c < 1114112)
  | .tup ds => nbs ds | .lst ds => nbs ds | .dic _ _ => false | .ref _ => false | .scr _ => false
def nbs : List D → Bool
  | [] => true
  | d :: ds => nb d && nbs ds
end
mutual
theorem eqv_nb : ∀ {a b : D}, nb a = true → nb b = true → (eqv a b = true ↔ a = b)
  | .non, b, _, hb => by cases b <;> first | (unfold nb at hb; cases hb; done) | simp [eqv, toPy, PyData.eqv]
  | .int i, b, _, hb => by cases b <;> first | (unfold nb at hb; cases hb; done) | simp [eqv, toPy, PyData.eqv]
  | .str x, b, _, hb => by
    cases b <;> first | (unfold nb at hb; cases hb; done) | (simp [eqv, toPy, PyData.eqv]; done) | skip
    rename_i y
    simp only [eqv, toPy, PyData.eqv, beq_iff_eq, D.str.injEq]
    exact ⟨strOfL_inj, fun e => by rw [e]⟩
  | .tup ds, b, ha, hb => by
    cases b <;> first | (unfold nb at hb; cases hb; done) | (simp [eqv, toPy, PyData.eqv]; done) | skip
    rename_i es
    unfold nb at ha hb
    have := eqvs_nb ha hb
    simp only [eqv, toPy, PyData.eqv, D.tup.injEq]
    exact this
  | .lst ds, b, ha, hb => by
    cases b <;> first | (unfold nb at hb; cases hb; done) | (simp [eqv, toPy, PyData.eqv]; done) | skip
    rename_i es
    unfold nb at ha hb
    have := eqvs_nb ha hb
    simp only [eqv, toPy, PyData.eqv, D.lst.injEq]
    exact this
  | .bl _, _, ha, _ => by unfold nb at ha; cases ha
  | .dic _ _, _, ha, _ => by unfold nb at ha; cases ha
  | .ref _, _, ha, _ => by unfold nb at ha; cases ha
  | .scr _, _, ha, _ => by unfold nb at ha; cases ha
theorem eqvs_nb : ∀ {a b : List D}, nbs a = true → nbs b = true → (PyData.eqvAll (toPys a) (toPys b) = true ↔ a = b)
  | [], [], _, _ => by simp [toPys, PyData.eqvAll]
  | [], _ :: _, _, _ => by simp [toPys, PyData.eqvAll]
  | _ :: _, [], _, _ => by simp [toPys, PyData.eqvAll]
  | a :: as, b :: bs, ha, hb => by
    unfold nbs at ha hb
    rw [Bool.and_eq_true] at ha hb
    have h1 := eqv_nb ha.1 hb.1
    have h2 := eqvs_nb ha.2 hb.2
    simp only [toPys, PyData.eqvAll, Bool.and_eq_true, List.cons.injEq]
    unfold eqv at h1
    rw [h1, h2]
end
mutual
theorem lay_nb : ∀ {a : D}, nb a = true → lay a = true
  | .non, _ => by simp [lay, toPy, PyData.canLay0]
  | .int i, _ => by simp [lay, toPy, PyData.canLay0]
  | .str x, hx => by
    simp only [lay, toPy, PyData.canLay0]
    unfold nb at hx
    unfold PyData.strOk strOfL
    rw [Array.all_eq_true']
    intro c hc
    exact List.all_eq_true.mp hx c (by simpa using hc)
  | .tup ds, hx => by
    unfold nb at hx
    simp only [lay, toPy, PyData.canLay0]
    exact lays_nb hx
  | .lst ds, hx => by
    unfold nb at hx
    simp only [lay, toPy, PyData.canLay0]
    exact lays_nb hx
  | .bl _, ha => by unfold nb at ha; cases ha
  | .dic _ _, ha => by unfold nb at ha; cases ha
  | .ref _, ha => by unfold nb at ha; cases ha
  | .scr _, ha => by unfold nb at ha; cases ha
theorem lays_nb : ∀ {a : List D}, nbs a = true → PyData.canLayAll0 (toPys a) = true
  | [], _ => by simp [toPys, PyData.canLayAll0]
  | a :: as, ha => by
    unfold nbs at ha
    rw [Bool.and_eq_true] at ha
    have h1 := lay_nb ha.1
    unfold lay at h1
    simp only [toPys, PyData.canLayAll0, h1, lays_nb ha.2, Bool.and_self]
end
mutual
theorem below_nb : ∀ {d : D}, nb d = true → below a d = true
  | .non, _ => below_non
  | .int _, _ => below_int
  | .str _, _ => below_str
  | .tup ds, h => by rw [below_tup_eq]; unfold nb at h; exact belows_nb h
  | .lst ds, h => by rw [below_lst_eq]; unfold nb at h; exact belows_nb h
  | .bl _, ha => by unfold nb at ha; cases ha
  | .dic _ _, ha => by unfold nb at ha; cases ha
  | .ref _, ha => by unfold nb at ha; cases ha
  | .scr _, ha => by unfold nb at ha; cases ha
theorem belows_nb : ∀ {d : List D}, nbs d = true → belows a d = true
  | [], _ => belows_nil
  | d :: ds, h => by
    unfold nbs at h
    rw [Bool.and_eq_true] at h
    rw [belows_cons_eq, below_nb h.1, belows_nb h.2]; rfl
end
theorem rsv_nb (hd : nb d = true) : rsv h d = some d := frzN_below (below_nb hd)
theorem dep_tup : dep (.tup ds) = PyData.depthAll (toPys ds) + 1 := by simp [dep, toPy, PyData.depth]
theorem dep_lst : dep (.lst ds) = PyData.depthAll (toPys ds) + 1 := by simp [dep, toPy, PyData.depth]
mutual
theorem frz_nb : ∀ {d : D} {k : Nat}, nb d = true → dep d < k → frz k h a d = some d
  | .non, k, _, hk => by cases k with | zero => omega | succ k => rfl
  | .int _, k, _, hk => by cases k with | zero => omega | succ k => rfl
  | .str _, k, _, hk => by cases k with | zero => omega | succ k => rfl
  | .tup ds, k, hn, hk => by
    rw [dep_tup] at hk
    cases k with
    | zero => omega
    | succ k =>
      unfold nb at hn
      show (ds.mapM (frz k h a)).map D.tup = _
      rw [frzs_nb hn (by omega)]; rfl
  | .lst ds, k, hn, hk => by
    rw [dep_lst] at hk
    cases k with
    | zero => omega
    | succ k =>
      unfold nb at hn
      show (ds.mapM (frz k h a)).map D.lst = _
      rw [frzs_nb hn (by omega)]; rfl
  | .bl _, _, ha, _ => by unfold nb at ha; cases ha
  | .dic _ _, _, ha, _ => by unfold nb at ha; cases ha
  | .ref _, _, ha, _ => by unfold nb at ha; cases ha
  | .scr _, _, ha, _ => by unfold nb at ha; cases ha
theorem frzs_nb : ∀ {ds : List D} {k : Nat}, nbs ds = true → PyData.depthAll (toPys ds) < k → ds.mapM (frz k h a) = some ds
  | [], _, _, _ => rfl
  | d :: ds, k, hn, hk => by
    unfold nbs at hn
    rw [Bool.and_eq_true] at hn
    simp only [toPys, PyData.depthAll] at hk
    rw [List.mapM_cons, frz_nb hn.1 (by unfold dep; omega), frzs_nb hn.2 (by omega)]; rfl
end
theorem rsv_ref {r : Nat} (g : get h r = some (.lst ds)) (hn : nbs ds = true) (hk : PyData.depthAll (toPys ds) < 39) : rsv h (.ref r) = some (.lst ds) := by
  unfold rsv frzN
  rw [if_neg (by simp)]
  show (match get h r with
    | some (.lst ds) => (ds.mapM (frz 39 h 0)).map D.lst
    | some (.dic ks vs) => (ks.mapM (frz 39 h 0)).bind fun ks => (vs.mapM (frz 39 h 0)).map fun vs => .dic ks vs
    | _ => none) = _
  rw [g]
  show (ds.mapM (frz 39 h 0)).map D.lst = _
  rw [frzs_nb hn hk]; rfl
theorem eqH_of {x y x' y' : D} (h1 : rsv h x = some x') (h2 : rsv h y = some y') (n1 : nb x' = true) (n2 : nb y' = true) (k : dep x' ≤ 64 ∨ dep y' ≤ 64) : eqH h x y = some (eqv x' y') := by
  unfold eqH
  rw [h1, h2]
  have : eqOk x' y' = true := by
    unfold eqOk
    rw [lay_nb n1, lay_nb n2]
    rcases k with k | k
    · rw [decide_eq_true k]; rfl
    · rw [decide_eq_true k, Bool.or_true]; rfl
  simp only [this, if_true]
theorem eqH_nb {x y : D} (n1 : nb x = true) (n2 : nb y = true) (k : dep x ≤ 64 ∨ dep y ≤ 64) : eqH h x y = some (eqv x y) := eqH_of (rsv_nb n1) (rsv_nb n2) n1 n2 k
theorem eqv_int : eqv (.int i) (.int j) = decide (i = j) := by simp only [eqv, toPy, PyData.eqv]; exact Bool.beq_eq_decide_eq i j
theorem nb_int : nb (.int i) = true := by unfold nb; rfl
theorem dep_int : dep (.int i) = 0 := by simp [dep, toPy, PyData.depth]
@[simp] theorem cop_eq_int : cop .eq h (.int i) (.int j) = some (.bl (decide (i = j))) := by
  show (eqH h (.int i) (.int j)).map D.bl = _
  rw [eqH_nb nb_int nb_int (.inl (by rw [dep_int]; omega)), eqv_int]; rfl
@[simp] theorem cop_ne_int : cop .ne h (.int i) (.int j) = some (.bl (!decide (i = j))) := by
  show (eqH h (.int i) (.int j)).map (fun c => D.bl !c) = _
  rw [eqH_nb nb_int nb_int (.inl (by rw [dep_int]; omega)), eqv_int]; rfl
@[simp] theorem cop_lt_int : cop .lt h (.int i) (.int j) = some (.bl (decide (i < j))) := rfl
@[simp] theorem cop_le_int : cop .le h (.int i) (.int j) = some (.bl (decide (i ≤ j))) := rfl
@[simp] theorem cop_gt_int : cop .gt h (.int i) (.int j) = some (.bl (decide (j < i))) := rfl
@[simp] theorem cop_ge_int : cop .ge h (.int i) (.int j) = some (.bl (decide (j ≤ i))) := rfl
theorem cop_eq_of {x y x' y' : D} (h1 : rsv h x = some x') (h2 : rsv h y = some y') (n1 : nb x' = true) (n2 : nb y' = true) (k : dep x' ≤ 64 ∨ dep y' ≤ 64) : cop .eq h x y = some (.bl (eqv x' y')) := by
  show (eqH h x y).map D.bl = _
  rw [eqH_of h1 h2 n1 n2 k]; rfl
theorem cop_ne_of {x y x' y' : D} (h1 : rsv h x = some x') (h2 : rsv h y = some y') (n1 : nb x' = true) (n2 : nb y' = true) (k : dep x' ≤ 64 ∨ dep y' ≤ 64) : cop .ne h x y = some (.bl (!eqv x' y')) := by
  show (eqH h x y).map (fun c => D.bl !c) = _
  rw [eqH_of h1 h2 n1 n2 k]; rfl
theorem eqv_self {x : D} (n : nb x = true) : eqv x x = true := (eqv_nb n n).mpr rfl

/-! ### new values -/
@[simp] theorem mk_int' : mk n (some (.int i)) h = .ok (.int i) h := by cases n <;> rfl
@[simp] theorem mk_bl' {k : Bool} : mk n (some (.bl k)) h = .ok (.bl k) h := by cases n <;> rfl
@[simp] theorem mk_non' : mk n (some .non) h = .ok .non h := by cases n <;> rfl
@[simp] theorem mk_str' {x : List Nat} : mk n (some (.str x)) h = .ok (.str x) h := by cases n <;> rfl
@[simp] theorem mk_tup' : mk n (some (.tup ds)) h = .ok (.tup ds) h := by cases n <;> rfl
@[simp] theorem mk_ff : mk false (some d) h = .ok d h := rfl
@[simp] theorem mk_tt : mk true (some (.lst ds)) h = .ok (.ref h.length) (.lst ds :: h) := rfl
@[simp] theorem mk_ttD {ks : List D} : mk true (some (.dic ks ds)) h = .ok (.ref h.length) (.dic ks ds :: h) := rfl
variable {Q : D → Hea → Prop} {E : Xc → Hea → Prop}
@[simp] theorem WP_mk_if {c : Prop} [Decidable c] : WP (mk n (if c then some d else none) h) Q E ↔ c ∧ WP (mk n (some d) h) Q E := by
  by_cases hc : c
  · rw [if_pos hc]; exact ⟨fun w => ⟨hc, w⟩, fun w => w.2⟩
  · rw [if_neg hc]; exact ⟨fun w => w.m.elim, fun w => absurd w.1 hc⟩
theorem WP_if_stuck {α : Type} {c : Prop} [Decidable c] {r : R α} {Q : α → Hea → Prop} : WP (if c then r else .stuck) Q E ↔ c ∧ WP r Q E := by
  by_cases hc : c
  · rw [if_pos hc]; exact ⟨fun w => ⟨hc, w⟩, fun w => w.2⟩
  · rw [if_neg hc]; exact ⟨fun w => w.m.elim, fun w => absurd w.1 hc⟩
theorem sti_ok {x : D} {k : Nat} (g : get h a = some (.lst ds)) (hi : plc ds.length i = some k) (b : below a x = true) : stiH h (.ref a) (.int i) x = some (put h a (.lst (ds.set k x))) := by
  unfold stiH
  simp only [g, hi, b, if_true]
theorem sti_dic {k x : D} {ks : List D} (g : get h a = some (.dic ks ds)) (ik : isKey k = true) (b : below a x = true) (hl : ks.length < SL) : stiH h (.ref a) k x = some (put h a (.dic (dPutK k ks) (dPutV k x ks ds))) := by
  unfold stiH
  simp only [g, ik, b, decide_eq_true hl, Bool.and_self, if_true]
theorem ix_dicr {k x : D} {ks : List D} (g : get h a = some (.dic ks ds)) (ik : isKey k = true) (e : dGet k ks ds = some x) : ixH h (.ref a) k = some x := by
  unfold ixH
  simp only [g, ik, e, if_true]
@[simp] theorem cop_isB {x y : Bool} : cop .isB h (.bl x) (.bl y) = some (.bl (decide (x = y))) := rfl
@[simp] theorem cop_notB {x y : Bool} : cop .notB h (.bl x) (.bl y) = some (.bl (!decide (x = y))) := rfl
theorem ix_ref {k : Nat} (g : get h a = some (.lst ds)) (hi : plc ds.length i = some k) : ixH h (.ref a) (.int i) = ds[k]? := by
  unfold ixH
  simp only [g, hi]; rfl
theorem ix_lst {k : Nat} (hi : plc ds.length i = some k) : ixH h (.lst ds) (.int i) = ds[k]? := by
  unfold ixH
  simp only [hi]; rfl
theorem ix_tup {k : Nat} (hi : plc ds.length i = some k) : ixH h (.tup ds) (.int i) = ds[k]? := by
  unfold ixH
  simp only [hi]; rfl
theorem ix_scr {ns : List Int} {k : Nat} (hi : plc ns.length i = some k) : ixH h (.scr ns) (.int i) = ns[k]?.map .int := by
  unfold ixH
  simp only [hi]; rfl
theorem plc_pos {k : Nat} (l : k < b) : plc b (k : Int) = some k := by
  unfold plc
  rw [if_pos (by omega), if_pos (by omega)]; simp
theorem plc_int (h1 : 0 ≤ i) (h2 : i < b) : plc b i = some i.toNat := by
  unfold plc
  rw [if_pos h1, if_pos h2]

/-! ### built-ins -/
theorem bl_len_scr {ns : List Int} : bltH .len h [.scr ns] = some (.int ns.length) := by
  show some (D.int (ns.map D.int).length) = _
  rw [List.length_map]
theorem bl_len_lst : bltH .len h [.lst ds] = some (.int ds.length) := rfl
theorem bl_len_tup : bltH .len h [.tup ds] = some (.int ds.length) := rfl
theorem bl_len_str {x : List Nat} : bltH .len h [.str x] = if x.length ≤ SL then some (.int x.length) else none := rfl
theorem bl_len_ref (g : get h a = some (.lst ds)) : bltH .len h [.ref a] = some (.int ds.length) := by
  show (seqV h (.ref a)).map (fun ds => D.int ds.length) = _
  unfold seqV
  simp only [g]; rfl
theorem bl_abs : bltH .abs h [.int i] = some (.int (if i < 0 then -i else i)) := rfl
theorem bl_max : bltH .max h [.int i, .int j] = some (.int (if j > i then j else i)) := rfl
theorem bl_min : bltH .min h [.int i, .int j] = some (.int (if j < i then j else i)) := rfl
theorem bl_int : bltH .int h [.int i] = some (.int i) := rfl
theorem bl_intb {k : Bool} : bltH .int h [.bl k] = some (.int (if k then 1 else 0)) := rfl
theorem bl_str : bltH .str h [.int i] = if i.natAbs.log2 < 1920 then some (.str (intStr i)) else none := rfl
theorem bl_tuple_lst : bltH .tuple h [.lst ds] = some (.tup ds) := rfl
theorem bl_tuple_tup : bltH .tuple h [.tup ds] = some (.tup ds) := rfl
theorem bl_tuple_ref (g : get h a = some (.lst ds)) : bltH .tuple h [.ref a] = some (.tup ds) := by
  show (seqV h (.ref a)).map D.tup = _
  unfold seqV
  simp only [g]; rfl
theorem bl_list_lst : bltH .list h [.lst ds] = some (.lst ds) := rfl
theorem bl_list_tup : bltH .list h [.tup ds] = some (.lst ds) := rfl
theorem bl_list_ref (g : get h a = some (.lst ds)) : bltH .list h [.ref a] = some (.lst ds) := by
  show (seqV h (.ref a)).map D.lst = _
  unfold seqV
  simp only [g]; rfl
theorem bls_map : ∀ {xs : List Bool}, bls (xs.map D.bl) = some xs
  | [] => rfl
  | x :: xs => by rw [List.map_cons]; unfold bls; rw [bls_map]; rfl
theorem intsL_map : ∀ {xs : List Int}, intsL (xs.map D.int) = some xs
  | [] => rfl
  | x :: xs => by rw [List.map_cons]; unfold intsL; rw [intsL_map]; rfl
theorem bl_all {xs : List Bool} : bltH .all h [.lst (xs.map D.bl)] = some (.bl (xs.all id)) := by
  show ((some (xs.map D.bl)).bind bls).map _ = _
  show (bls (xs.map D.bl)).map _ = _
  rw [bls_map]; rfl
theorem bl_any {xs : List Bool} : bltH .any h [.lst (xs.map D.bl)] = some (.bl (xs.any id)) := by
  show (bls (xs.map D.bl)).map _ = _
  rw [bls_map]; rfl
theorem bl_sum {xs : List Int} : bltH .sum h [.lst (xs.map D.int)] = some (.int xs.sum) := by
  show (intsL (xs.map D.int)).map _ = _
  rw [intsL_map]; rfl
theorem bl_isi {d : D} {ts : List Ty} : bltH (.isi ts) h [d] = (isiH h d ts).map .bl := rfl
theorem isi_int {ts : List Ty} : isiH h (.int i) ts = some (ts.any (isTy .int)) := rfl
theorem isi_bl {k : Bool} {ts : List Ty} : isiH h (.bl k) ts = some (ts.any (isTy .bool)) := rfl
theorem isi_str {k : List Nat} {ts : List Ty} : isiH h (.str k) ts = some (ts.any (isTy .str)) := rfl
theorem isi_tup {ts : List Ty} : isiH h (.tup ds) ts = some (ts.any (isTy .tuple)) := rfl
theorem isi_lst {ts : List Ty} : isiH h (.lst ds) ts = some (ts.any (isTy .list)) := rfl
theorem isi_non {ts : List Ty} : isiH h .non ts = some false := rfl
theorem isi_dic {ks : List D} {ts : List Ty} : isiH h (.dic ks ds) ts = some (ts.any (isTy .dict)) := rfl
theorem isi_ref {ts : List Ty} (g : get h a = some (.lst ds)) : isiH h (.ref a) ts = some (ts.any (isTy .list)) := by
  unfold isiH tyOf
  simp only [g]; rfl
theorem isTy_int : isTy .int .int = true := rfl
theorem omap_some {α β : Type} {x : α} {f : α → β} : (some x).map f = some (f x) := rfl

/-! ### methods -/
abbrev strM : Mth → Bool
  | .join => true
  | .endswith => true
  | _ => false
theorem rcv_of {m : Mth} (g : get h a = some (.lst ds)) (hm : strM m = true → False) : rcv m h (.ref a) = true := by
  cases m <;> first | exact absurd rfl hm | (unfold rcv; simp only [g])
theorem rcv_join {x : List Nat} : rcv .join h (.str x) = true := rfl
theorem app_ok (g : get h a = some (.lst ds)) (hl : ds.length < SL) (hb : below a d = true) : mthH .append h (.ref a) [d] = .ok .non (put h a (.lst (ds ++ [d]))) := by
  unfold mthH
  dsimp only
  unfold appH
  dsimp only
  unfold onL
  simp only [g, hl, hb, and_self, if_true]
theorem clr_ok (g : get h a = some (.lst ds)) : mthH .clear h (.ref a) [] = .ok .non (put h a (.lst [])) := by
  unfold mthH
  dsimp only
  unfold clrH
  dsimp only
  unfold onL
  simp only [g]
theorem rev_ok (g : get h a = some (.lst ds)) : mthH .reverse h (.ref a) [] = .ok .non (put h a (.lst ds.reverse)) := by
  unfold mthH
  dsimp only
  unfold revH
  dsimp only
  unfold onL
  simp only [g]
theorem pop_ok {x : D} (g : get h a = some (.lst ds)) (e : ds[ds.length - 1]? = some x) : mthH .pop h (.ref a) [] = .ok x (put h a (.lst ds.dropLast)) := by
  unfold mthH
  dsimp only
  unfold popH
  dsimp only
  unfold onL
  simp only [g, e]; rfl
theorem ext_ok {x : D} (g : get h a = some (.lst ds)) (e : lstW h x = some es) (hl : ds.length + es.length ≤ SL) (hb : belows a es = true) : mthH .extend h (.ref a) [x] = .ok .non (put h a (.lst (ds ++ es))) := by
  unfold mthH
  dsimp only
  unfold extH
  simp only [e]
  unfold onL
  simp only [g, hl, hb, and_self, if_true]
@[simp] theorem bop_rep : bop .mul h (.lst ds) (.int j) = if -9223372036854775808 ≤ j ∧ j < 9223372036854775808 ∧ ds.length * j.toNat ≤ SL then some (.lst (rep j.toNat ds)) else none := by
  show (if -(2 ^ 63) ≤ j ∧ j < 2 ^ 63 ∧ ds.length * j.toNat ≤ SL then some (D.lst (rep j.toNat ds)) else none) = _
  exact if_iff (by rw [show (2 : Int) ^ 63 = 9223372036854775808 by decide])
@[simp] theorem bop_cat : bop .add h (.lst ds) (.lst es) = if ds.length + es.length ≤ SL then some (.lst (ds ++ es)) else none := rfl
theorem rep_one {k : Nat} : rep k [d] = List.replicate k d := by
  unfold rep
  induction k with
  | zero => rfl
  | succ k ih => rw [List.replicate_succ, List.flatten_cons, ih, List.replicate_succ]; rfl
end
end MP

/-! Loops. -/
namespace MP
open PySem

/-- a body's end within a loop -/
def Bod (I : Env → Hea → Prop) (Q : Fl → Hea → Prop) : Fl → Hea → Prop := fun fl h => match fl with
  | .nx ρ => I ρ h
  | .ct ρ => I ρ h
  | .bk ρ => Q (.nx ρ) h
  | .rt d => Q (.rt d) h
  | .xc x ρ => Q (.xc x ρ) h
section
variable {body : Env → Hea → R Fl} {tg : Tg} {fin : Option (Nat × Nat)} {its : List Itm} {ρ : Env} {h : Hea} {Q : Fl → Hea → Prop} {E : Xc → Hea → Prop}
theorem frL_ind (I : Nat → Env → Hea → Prop) (h0 : I 0 ρ h)
    (hs : ∀ (i : Nat) (hi : i < its.length) ρ h, I i ρ h → ∃ d ρ', itm h its[i] = some d ∧ bindT h tg d ρ = some ρ' ∧ WP (body ρ' h) (Bod (I (i + 1)) Q) E)
    (hd : ∀ ρ h, I its.length ρ h → finOk h fin = true ∧ Q (.nx ρ) h) : WP (frL body tg fin its ρ h) Q E := by
  have main : ∀ (n i : Nat), i + n = its.length → ∀ ρ h, I i ρ h → WP (frL body tg fin (its.drop i) ρ h) Q E := by
    intro n
    induction n with
    | zero =>
      intro i hi ρ h hI
      rw [List.drop_eq_nil_of_le (by omega)]
      obtain ⟨hf, hq⟩ := hd ρ h (by rw [← (show i = its.length by omega)]; exact hI)
      unfold frL
      rw [if_pos hf, WP_ok]
      exact hq
    | succ n ih =>
      intro i hi ρ h hI
      have hi' : i < its.length := by omega
      obtain ⟨d, ρ', e1, e2, w⟩ := hs i hi' ρ h hI
      rw [List.drop_eq_getElem_cons hi']
      unfold frL
      simp only [e1, e2]
      rw [WP_bnd]
      refine w.mono fun fl h' q => ?_
      cases fl with
      | nx ρ => exact ih (i + 1) (by omega) ρ h' q
      | ct ρ => exact ih (i + 1) (by omega) ρ h' q
      | bk ρ => exact ⟨q⟩
      | rt d => exact ⟨q⟩
      | xc x ρ => exact ⟨q⟩
  have := main its.length 0 (by omega) ρ h h0
  rwa [List.drop_zero] at this
theorem bindT_one {v : Nat} {d : D} : bindT h (.one v) d ρ = some (ρ.set v (some d)) := rfl
theorem frL_val {v : Nat} {ds : List D} (I : Nat → Env → Hea → Prop) (h0 : I 0 ρ h)
    (hs : ∀ (i : Nat) (hi : i < ds.length) ρ h, I i ρ h → WP (body (ρ.set v (some ds[i])) h) (Bod (I (i + 1)) Q) E)
    (hd : ∀ ρ h, I ds.length ρ h → Q (.nx ρ) h) : WP (frL body (.one v) none (ds.map .v) ρ h) Q E := by
  refine frL_ind I h0 (fun i hi ρ h hI => ?_) (fun ρ h hI => ⟨rfl, hd ρ h (by rw [List.length_map] at hI; exact hI)⟩)
  have hi' : i < ds.length := by rw [List.length_map] at hi; exact hi
  exact ⟨ds[i], _, by rw [List.getElem_map]; rfl, rfl, hs i hi' ρ h hI⟩
theorem rngL_len {lo hi : Int} : (rngL lo hi).length = (hi - lo).toNat := by unfold rngL; simp
theorem frL_rng {v : Nat} {lo hi' : Int} (I : Nat → Env → Hea → Prop) (h0 : I 0 ρ h)
    (hs : ∀ (i : Nat), (i : Int) < hi' - lo → ∀ ρ h, I i ρ h → WP (body (ρ.set v (some (.int (lo + i)))) h) (Bod (I (i + 1)) Q) E)
    (hd : ∀ ρ h, I (hi' - lo).toNat ρ h → Q (.nx ρ) h) : WP (frL body (.one v) none (rngL lo hi') ρ h) Q E := by
  refine frL_ind I h0 (fun i hi ρ h hI => ?_) (fun ρ h hI => ⟨rfl, hd ρ h (by rw [rngL_len] at hI; exact hI)⟩)
  rw [rngL_len] at hi
  have e : (rngL lo hi')[i]'(by rw [rngL_len]; exact hi) = .v (.int (lo + (i : Int))) := by simp only [rngL, List.getElem_map, List.getElem_range]
  exact ⟨.int (lo + i), _, by rw [e]; rfl, rfl, hs i (by omega) ρ h hI⟩
/-- a list in a cell that is only read -/
theorem frL_cell {v a : Nat} {ds : List D} (I : Nat → Env → Hea → Prop) (h0 : I 0 ρ h) (hg : ∀ i ρ h, I i ρ h → get h a = some (.lst ds))
    (hs : ∀ (i : Nat) (hi : i < ds.length) ρ h, I i ρ h → WP (body (ρ.set v (some ds[i])) h) (Bod (I (i + 1)) Q) E)
    (hd : ∀ ρ h, I ds.length ρ h → Q (.nx ρ) h) : WP (frL body (.one v) (some (a, ds.length)) ((List.range ds.length).map (.at a ·)) ρ h) Q E := by
  refine frL_ind I h0 (fun i hi ρ h hI => ?_) (fun ρ h hI => ?_)
  · have hi' : i < ds.length := by rw [List.length_map, List.length_range] at hi; exact hi
    refine ⟨ds[i], _, ?_, rfl, hs i hi' ρ h hI⟩
    rw [List.getElem_map, List.getElem_range]
    show (match get h a with | some (.lst ds) => ds[i]? | _ => none) = _
    rw [hg i ρ h hI]
    exact List.getElem?_eq_getElem hi'
  · have hI' : I ds.length ρ h := by rw [List.length_map, List.length_range] at hI; exact hI
    refine ⟨?_, hd ρ h hI'⟩
    show (match get h a with | some (.lst es) => es.length == ds.length | _ => false) = true
    rw [hg _ ρ h hI']
    simp
theorem whL_ind {tst : Env → Hea → R Bool} (I : Nat → Env → Hea → Prop)
    (hs : ∀ m ρ h, I m ρ h → WP (tst ρ h) (fun b h' => if b = true then WP (body ρ h') (Bod (fun ρ h => ∃ m', m' < m ∧ I m' ρ h) Q) E else Q (.nx ρ) h') (fun x h => Q (.xc x ρ) h)) :
    ∀ (f m : Nat) (ρ : Env) (h : Hea), m < f → I m ρ h → WP (whL tst body f ρ h) Q E := by
  intro f
  induction f with
  | zero => intro m ρ h hm; omega
  | succ f ih =>
    intro m ρ h hm hI
    unfold whL
    rw [WP_bns]
    refine (hs m ρ h hI).mono fun b h' q => ?_
    cases b with
    | false => simp only [Bool.false_eq_true, if_false] at q ⊢; exact ⟨q⟩
    | true =>
      simp only [if_true] at q ⊢
      rw [WP_bnd]
      refine q.mono fun fl h' q => ?_
      cases fl with
      | nx ρ => obtain ⟨m', hm', q⟩ := q; exact ih m' ρ h' (by omega) q
      | ct ρ => obtain ⟨m', hm', q⟩ := q; exact ih m' ρ h' (by omega) q
      | bk ρ => exact ⟨q⟩
      | rt d => exact ⟨q⟩
      | xc x ρ => exact ⟨q⟩
end
section
variable {el : Env → Hea → R D} {cn : Env → Hea → R Bool} {tg : Tg} {fin : Option (Nat × Nat)} {its : List Itm} {ρ : Env} {h : Hea} {Q : List D → Hea → Prop} {E : Xc → Hea → Prop}
theorem lcL_ind (I : Nat → List D → Hea → Prop) (h0 : I 0 [] h)
    (hs : ∀ (i : Nat) (hi : i < its.length) acc h, I i acc h → ∃ d ρ', itm h its[i] = some d ∧ bindT h tg d ρ = some ρ' ∧
      WP (cn ρ' h) (fun c h' => if c = true then WP (el ρ' h') (fun d h'' => (acc.length < SL ∧ below h''.length d = true) ∧ I (i + 1) (acc ++ [d]) h'') E else I (i + 1) acc h') E)
    (hd : ∀ acc h, I its.length acc h → finOk h fin = true ∧ Q acc h) : WP (lcL el cn tg ρ fin its [] h) Q E := by
  have main : ∀ (n i : Nat), i + n = its.length → ∀ acc h, I i acc h → WP (lcL el cn tg ρ fin (its.drop i) acc h) Q E := by
    intro n
    induction n with
    | zero =>
      intro i hi acc h hI
      rw [List.drop_eq_nil_of_le (by omega)]
      obtain ⟨hf, hq⟩ := hd acc h (by rw [← (show i = its.length by omega)]; exact hI)
      unfold lcL
      rw [if_pos hf, WP_ok]
      exact hq
    | succ n ih =>
      intro i hi acc h hI
      have hi' : i < its.length := by omega
      obtain ⟨d, ρ', e1, e2, w⟩ := hs i hi' acc h hI
      rw [List.drop_eq_getElem_cons hi']
      unfold lcL
      simp only [e1, e2]
      rw [WP_bnd]
      refine w.mono fun c h' q => ?_
      cases c with
      | false => simp only [Bool.false_eq_true, if_false] at q ⊢; exact ih (i + 1) (by omega) acc h' q
      | true =>
        simp only [if_true] at q ⊢
        rw [WP_bnd]
        refine q.mono fun d h'' q => ?_
        rw [if_pos q.1]
        exact ih (i + 1) (by omega) (acc ++ [d]) h'' q.2
  have := main its.length 0 (by omega) [] h h0
  rwa [List.drop_zero] at this
/-- a map that changes nothing -/
theorem lcL_map {v : Nat} {ds : List D} (f : D → D) (hl : ds.length ≤ SL) (hs : ∀ d ∈ ds, el (ρ.set v (some d)) h = .ok (f d) h ∧ below h.length (f d) = true) :
    lcL el (fun _ h => .ok true h) (.one v) ρ none (ds.map .v) [] h = .ok (ds.map f) h := by
  have main : ∀ (ds : List D) (acc : List D), acc.length + ds.length ≤ SL → (∀ d ∈ ds, el (ρ.set v (some d)) h = .ok (f d) h ∧ below h.length (f d) = true) → lcL el (fun _ h => .ok true h) (.one v) ρ none (ds.map .v) acc h = .ok (acc ++ ds.map f) h := by
    intro ds
    induction ds with
    | nil => intro acc _ _; rw [List.map_nil, List.map_nil, List.append_nil]; rfl
    | cons d ds ih =>
      intro acc hl hs
      obtain ⟨e, b⟩ := hs d List.mem_cons_self
      rw [List.length_cons] at hl
      rw [List.map_cons]
      unfold lcL
      show ((R.ok true h).bnd fun c h => if c = true then (el (ρ.set v (some d)) h).bnd fun d h => if acc.length < SL ∧ below h.length d = true then lcL el (fun _ h => .ok true h) (.one v) ρ none (ds.map .v) (acc ++ [d]) h else .stuck else lcL el (fun _ h => .ok true h) (.one v) ρ none (ds.map .v) acc h) = _
      show (el (ρ.set v (some d)) h).bnd (fun d h => if acc.length < SL ∧ below h.length d = true then lcL el (fun _ h => .ok true h) (.one v) ρ none (ds.map .v) (acc ++ [d]) h else .stuck) = _
      rw [e]
      show (if acc.length < SL ∧ below h.length (f d) = true then lcL el (fun _ h => .ok true h) (.one v) ρ none (ds.map .v) (acc ++ [f d]) h else .stuck) = _
      rw [if_pos ⟨by omega, b⟩, ih _ (by rw [List.length_append]; simp; omega) fun d hd => hs d (List.mem_cons_of_mem _ hd)]
      rw [List.map_cons, List.append_assoc]; rfl
  have := main ds [] (by simpa using hl) hs
  rwa [List.nil_append] at this
theorem rngL_val {lo hi : Int} : rngL lo hi = ((List.range (hi - lo).toNat).map fun (i : Nat) => D.int (lo + (i : Int))).map .v := by
  unfold rngL
  rw [List.map_map]; rfl
end
section
variable {h : Hea} {i j : Int} {E : Xc → Hea → Prop} {Q : Walk → Hea → Prop}
@[simp] theorem WP_walkR : WP (lift (walkR (.int i) (.int j)) h) Q E ↔ (R62 i = true ∧ R62 j = true) ∧ Q ⟨rngL i j, none⟩ h := by
  unfold walkR
  by_cases hc : (R62 i && R62 j) = true
  · simp only [if_pos hc]
    rw [Bool.and_eq_true] at hc
    rw [show lift (some (Walk.mk (rngL i j) none)) h = .ok (Walk.mk (rngL i j) none) h from rfl, WP_ok]
    exact ⟨fun w => ⟨hc, w⟩, fun w => w.2⟩
  · simp only [if_neg hc]
    rw [Bool.and_eq_true] at hc
    exact ⟨fun w => w.m.elim, fun w => absurd w.1 hc⟩
theorem R62_of (h1 : -(2 ^ 62) ≤ i) (h2 : i < 2 ^ 62) : R62 i = true := by
  unfold R62
  rw [Bool.and_eq_true, decide_eq_true_eq, decide_eq_true_eq]
  exact ⟨h1, h2⟩
@[simp] theorem walkV_lst {ds : List D} : walkV h (.lst ds) = some ⟨ds.map .v, none⟩ := rfl
@[simp] theorem walkV_tup {ds : List D} : walkV h (.tup ds) = some ⟨ds.map .v, none⟩ := rfl
theorem walkV_ref {a : Nat} {ds : List D} (g : get h a = some (.lst ds)) : walkV h (.ref a) = some ⟨(List.range ds.length).map (.at a ·), some (a, ds.length)⟩ := by
  unfold walkV
  simp only [g]
end

/-! ### pens: drawn numbers -/
/-- a pen in a cell that has been asked t times at most -/
def Pen (t : Nat) (h : Hea) (a : Nat) : Prop := ∃ x y z : Int, get h a = some (.lst [.int x, .int y, .int z]) ∧ 0 ≤ x ∧ 0 ≤ z ∧ z ≤ t
def penF : Fn := ⟨2, 4, false,
   [.set 2 (.cst (.int 0)),
    .ifs (.cmp .lt (.nam 1) (.blt false .len (.cons (.nam 0) .nil)))
     [.set 2 (.idx (.nam 0) (.nam 1))]
     [],
    .set 3 (.blt false .abs (.cons (.nam 2) .nil)),
    .ifs (.cmp .lt (.nam 3) (.bin false .pow (.cst (.int 10)) (.cst (.int 18))))
     [.set 3 (.cst (.int 0))]
     [],
    .ret (.lst true (.cons (.nam 3) (.cons (.bin false .mod (.bin false .add (.bin false .add (.bin false .mul (.bin false .mod (.nam 2) (.cst (.int 2147483563))) (.cst (.int 16807))) (.bin false .mul (.cst (.int 9973)) (.nam 1))) (.cst (.int 5))) (.cst (.int 2147483563))) (.cons (.cst (.int 0)) .nil))))]⟩
def pickF : Fn := ⟨2, 5, false,
   [.ifs (.cmp .gt (.idx (.nam 0) (.cst (.int 0))) (.cst (.int 0)))
     [.set 4 (.bin false .mod (.idx (.nam 0) (.cst (.int 0))) (.nam 1)),
      .sti (.nam 0) (.cst (.int 0)) (.bin false .fdiv (.idx (.nam 0) (.cst (.int 0))) (.nam 1)),
      .ret (.nam 4)]
     [],
    .set 2 (.bin false .add (.idx (.nam 0) (.cst (.int 2))) (.cst (.int 1))),
    .sti (.nam 0) (.cst (.int 2)) (.nam 2),
    .set 3 (.bin false .mod (.bin false .add (.bin false .add (.idx (.nam 0) (.cst (.int 1))) (.bin false .mul (.bin false .mul (.cst (.int 52774)) (.nam 2)) (.nam 2))) (.bin false .mul (.cst (.int 40014)) (.nam 2))) (.cst (.int 2147483647))),
    .set 3 (.bin false .mod (.bin false .add (.bin false .add (.bin false .mul (.nam 3) (.nam 3)) (.bin false .mul (.cst (.int 30323)) (.nam 3))) (.nam 2)) (.cst (.int 2147483629))),
    .set 3 (.bin false .mod (.bin false .add (.bin false .mul (.nam 3) (.nam 3)) (.bin false .mul (.cst (.int 16807)) (.nam 3))) (.cst (.int 2147483587))),
    .ret (.bin true .mod (.bin false .fdiv (.nam 3) (.cst (.int 32))) (.nam 1))]⟩
end MP

/-! The rows by which a text is stepped through. -/
namespace MP
open PySem

def Nam (o : Option (Option D)) (K : D → Prop) (_t : Dum K := .mk) : Prop := match o with
  | some (some d) => K d
  | _ => False
def Opt {α : Type} (o : Option α) (K : α → Prop) (_t : Dum K := .mk) : Prop := match o with
  | some d => K d
  | none => False
def Ite (c : Bool) (A B : Prop) (_t : Dum A := .mk) (_u : Dum B := .mk) : Prop := if c = true then A else B
def Nxt (I : Env → Hea → Prop) (Q : Fl → Hea → Prop) : Fl → Hea → Prop := fun fl h => match fl with
  | .nx ρ => I ρ h
  | .ct ρ => Q (.ct ρ) h
  | .bk ρ => Q (.bk ρ) h
  | .rt d => Q (.rt d) h
  | .xc x ρ => Q (.xc x ρ) h
def IntV (d : D) (K : Int → Prop) (_t : Dum K := .mk) : Prop := match d with
  | .int i => K i
  | _ => False
def TupV (h : Hea) (d : D) (K : List D → Prop) (_t : Dum K := .mk) : Prop := match seqV h d with
  | some i => K i
  | none => False
def BlV (d : D) (K : Bool → Prop) (_t : Dum K := .mk) : Prop := match d with
  | .bl i => K i
  | _ => False
section
theorem TupV_tup {h : Hea} {i : List D} {K : List D → Prop} : TupV h (.tup i) K = K i := rfl
theorem TupV_lst {h : Hea} {i : List D} {K : List D → Prop} : TupV h (.lst i) K = K i := rfl
theorem TupV_ref {h : Hea} {a : Nat} {i : List D} {K : List D → Prop} (g : get h a = some (.lst i)) : TupV h (.ref a) K = K i := by
  unfold TupV seqV
  simp only [g]
theorem Nam_some {d : D} {K : D → Prop} : Nam (some (some d)) K = K d := rfl
theorem Opt_some {α : Type} {d : α} {K : α → Prop} : Opt (some d) K = K d := rfl
theorem Opt_if {α : Type} {c : Prop} [Decidable c] {d : α} {K : α → Prop} : Opt (if c then some d else none) K = (c ∧ K d) := by
  by_cases hc : c
  · rw [if_pos hc]; exact propext ⟨fun w => ⟨hc, w⟩, fun w => w.2⟩
  · rw [if_neg hc]; exact propext ⟨fun w => w.elim, fun w => absurd w.1 hc⟩
theorem Ite_tt {A B : Prop} : Ite true A B = A := by simp [Ite]
theorem Ite_ff {A B : Prop} : Ite false A B = B := by simp [Ite]
theorem Ite.mk {c : Bool} {A B : Prop} (h1 : c = true → A) (h2 : c = false → B) : Ite c A B := by cases c <;> simp_all [Ite]
theorem IteD {p : Prop} [Decidable p] {A B : Prop} (h1 : p → A) (h2 : ¬p → B) : Ite (decide p) A B := Ite.mk (fun h => h1 (of_decide_eq_true h)) fun h => h2 (of_decide_eq_false h)
theorem IntV_int {i : Int} {K : Int → Prop} : IntV (.int i) K = K i := rfl
theorem BlV_bl {i : Bool} {K : Bool → Prop} : BlV (.bl i) K = K i := rfl
theorem Nxt_nx {I : Env → Hea → Prop} {Q : Fl → Hea → Prop} {ρ : Env} {h : Hea} : Nxt I Q (.nx ρ) h = I ρ h := rfl
theorem Nxt_rt {I : Env → Hea → Prop} {Q : Fl → Hea → Prop} {ρ : D} {h : Hea} : Nxt I Q (.rt ρ) h = Q (.rt ρ) h := rfl
theorem Nxt_bk {I : Env → Hea → Prop} {Q : Fl → Hea → Prop} {ρ : Env} {h : Hea} : Nxt I Q (.bk ρ) h = Q (.bk ρ) h := rfl
theorem Nxt_ct {I : Env → Hea → Prop} {Q : Fl → Hea → Prop} {ρ : Env} {h : Hea} : Nxt I Q (.ct ρ) h = Q (.ct ρ) h := rfl
theorem Nxt_xc {I : Env → Hea → Prop} {Q : Fl → Hea → Prop} {ρ : Env} {x : Xc} {h : Hea} : Nxt I Q (.xc x ρ) h = Q (.xc x ρ) h := rfl
theorem Bod_nx {I : Env → Hea → Prop} {Q : Fl → Hea → Prop} {ρ : Env} {h : Hea} : Bod I Q (.nx ρ) h = I ρ h := rfl
theorem Bod_ct {I : Env → Hea → Prop} {Q : Fl → Hea → Prop} {ρ : Env} {h : Hea} : Bod I Q (.ct ρ) h = I ρ h := rfl
theorem Bod_bk {I : Env → Hea → Prop} {Q : Fl → Hea → Prop} {ρ : Env} {h : Hea} : Bod I Q (.bk ρ) h = Q (.nx ρ) h := rfl
theorem Bod_rt {I : Env → Hea → Prop} {Q : Fl → Hea → Prop} {ρ : D} {h : Hea} : Bod I Q (.rt ρ) h = Q (.rt ρ) h := rfl
theorem Bod_xc {I : Env → Hea → Prop} {Q : Fl → Hea → Prop} {ρ : Env} {x : Xc} {h : Hea} : Bod I Q (.xc x ρ) h = Q (.xc x ρ) h := rfl
theorem Ret_rt {n : Nat} {d : D} {h : Hea} {Q : D → Hea → Prop} {E : Xc → Hea → Prop} : Ret n Q E (.rt d) h = WP (leave n d h) Q E := rfl
theorem Ret_nx {n : Nat} {ρ : Env} {h : Hea} {Q : D → Hea → Prop} {E : Xc → Hea → Prop} : Ret n Q E (.nx ρ) h = WP (leave n .non h) Q E := rfl
theorem Ret_xc {n : Nat} {ρ : Env} {x : Xc} {h : Hea} {Q : D → Hea → Prop} {E : Xc → Hea → Prop} : Ret n Q E (.xc x ρ) h = E x (trunc n h) := rfl
end
section
variable {C : CT} {ρ : Env} {h : Hea} {Q : D → Hea → Prop} {E : Xc → Hea → Prop} {a b c : Ex} {n : Bool} {es : Exs}
theorem W_lift {α : Type} {o : Option α} {Q : α → Hea → Prop} : WP (lift o h) Q E = Opt o fun d => Q d h := by cases o <;> first | exact WP_ok | exact WP_stuck
theorem W_mk {o : Option D} : WP (mk n o h) Q E = Opt o fun d => WP (mk n (some d) h) Q E := by
  cases o with
  | none => exact WP_stuck
  | some d => rfl
theorem W_cst {d : D} : WP (ev C (.cst d) ρ h) Q E = Q d h := WP_ok
theorem W_nam {i : Nat} : WP (ev C (.nam i) ρ h) Q E = Nam ρ[i]? fun d => Q d h := by
  rw [ev]
  rcases ρ[i]? with _ | _ | d <;> first | exact WP_ok | exact WP_stuck
theorem W_bin {o : BOp} : WP (ev C (.bin n o a b) ρ h) Q E = WP (ev C a ρ h) (fun x h => WP (ev C b ρ h) (fun y h => Opt (bop o h x y) fun d => WP (mk n (some d) h) Q E) E) E := by
  rw [ev, WP_bnd]; refine WPe fun x h => ?_; rw [WP_bnd]; exact WPe fun y h => W_mk
theorem W_neg : WP (ev C (.neg a) ρ h) Q E = WP (ev C a ρ h) (fun x h => IntV x fun i => Q (.int (-i)) h) E := by
  rw [ev, WP_bnd]; refine WPe fun x h => ?_; cases x <;> first | exact WP_ok | exact WP_stuck
theorem W_cmp {o : COp} : WP (ev C (.cmp o a b) ρ h) Q E = WP (ev C a ρ h) (fun x h => WP (ev C b ρ h) (fun y h => Opt (cop o h x y) fun d => Q d h) E) E := by
  rw [ev, WP_bnd]; refine WPe fun x h => ?_; rw [WP_bnd]; exact WPe fun y h => W_lift
theorem W_land : WP (ev C (.land a b) ρ h) Q E = WP (ev C a ρ h) (fun x h => BlV x fun k => Ite k (WP (ev C b ρ h) Q E) (Q (.bl false) h)) E := by
  rw [ev, WP_bnd]; refine WPe fun x h => ?_
  cases x <;> try exact WP_stuck
  rename_i k; cases k
  · rw [BlV_bl, Ite_ff]; exact WP_ok
  · rw [BlV_bl, Ite_tt]
theorem W_lor : WP (ev C (.lor a b) ρ h) Q E = WP (ev C a ρ h) (fun x h => Opt (tru h x) fun k => Ite k (Q x h) (WP (ev C b ρ h) Q E)) E := by
  rw [ev, WP_bnd]; refine WPe fun x h => ?_
  cases e : tru h x with
  | none => exact WP_stuck
  | some k =>
    cases k
    · rw [Opt_some, Ite_ff]
    · rw [Opt_some, Ite_tt]; exact WP_ok
theorem W_lnot : WP (ev C (.lnot a) ρ h) Q E = WP (ev C a ρ h) (fun x h => BlV x fun k => Q (.bl !k) h) E := by
  rw [ev, WP_bnd]; refine WPe fun x h => ?_; cases x <;> first | exact WP_ok | exact WP_stuck
theorem W_if {α : Type} {k : Bool} {x y : R α} {Q : α → Hea → Prop} : WP (if k = true then x else y) Q E = Ite k (WP x Q E) (WP y Q E) := by cases k <;> simp [Ite]
theorem W_ite : WP (ev C (.ite c a b) ρ h) Q E = WP (tr C c ρ h) (fun k h => Ite k (WP (ev C a ρ h) Q E) (WP (ev C b ρ h) Q E)) E := by
  rw [ev, WP_bnd]; exact WPe fun x h => W_if
theorem W_nil {Q : List D → Hea → Prop} : WP (evs C .nil ρ h) Q E = Q [] h := WP_ok
theorem W_cons {Q : List D → Hea → Prop} : WP (evs C (.cons a es) ρ h) Q E = WP (ev C a ρ h) (fun d h => WP (evs C es ρ h) (fun ds h => Q (d :: ds) h) E) E := by
  rw [evs, WP_bnd]; refine WPe fun x h => ?_; rw [WP_bnd]; exact WPe fun y h => WP_ok
theorem W_ifs {α : Type} {p : Prop} [Decidable p] {x : R α} {Q : α → Hea → Prop} : WP (if p then x else .stuck) Q E = (p ∧ WP x Q E) := propext WP_if_stuck
theorem W_tup : WP (ev C (.tup es) ρ h) Q E = WP (evs C es ρ h) (fun ds h => ds.length ≤ SL ∧ Q (.tup ds) h) E := by
  rw [ev, WP_bnd]; exact WPe fun x h => by rw [W_ifs, WP_ok]
theorem W_lst : WP (ev C (.lst n es) ρ h) Q E = WP (evs C es ρ h) (fun ds h => ds.length ≤ SL ∧ WP (mk n (some (.lst ds)) h) Q E) E := by
  rw [ev, WP_bnd]; exact WPe fun x h => W_ifs
theorem W_dic : WP (ev C (.dic n es) ρ h) Q E = WP (evs C es ρ h) (fun ds h => Opt (disp ds) fun d => WP (mk n (some d) h) Q E) E := by
  rw [ev, WP_bnd]; exact WPe fun x h => W_mk
theorem W_idx : WP (ev C (.idx a b) ρ h) Q E = WP (ev C a ρ h) (fun x h => WP (ev C b ρ h) (fun y h => Opt (ixH h x y) fun d => Q d h) E) E := by
  rw [ev, WP_bnd]; refine WPe fun x h => ?_; rw [WP_bnd]; exact WPe fun y h => W_lift
theorem W_ono {Q : Option Int → Hea → Prop} : WP (evo C .none ρ h) Q E = Q none h := WP_ok
theorem W_oso {Q : Option Int → Hea → Prop} : WP (evo C (.some a) ρ h) Q E = WP (ev C a ρ h) (fun x h => IntV x fun i => Q (some i) h) E := by
  rw [evo, WP_bnd]; refine WPe fun x h => ?_; cases x <;> first | exact WP_ok | exact WP_stuck
theorem W_slc {lo hi : OEx} : WP (ev C (.slc n a lo hi) ρ h) Q E = WP (ev C a ρ h) (fun x h => WP (evo C lo ρ h) (fun l h => WP (evo C hi ρ h) (fun u h => Opt (slH h x l u) fun d => WP (mk n (some d) h) Q E) E) E) E := by
  rw [ev, WP_bnd]; refine WPe fun x h => ?_; rw [WP_bnd]; refine WPe fun y h => ?_; rw [WP_bnd]; exact WPe fun z h => W_mk
theorem W_cal {g : Nat} : WP (ev C (.cal n g es) ρ h) Q E = WP (evs C es ρ h) (fun ds h => WP (if n = true then C g ds h else melt h.length (C g ds h)) Q E) E := by rw [ev, WP_bnd]
theorem W_blt {k : Blt} : WP (ev C (.blt n k es) ρ h) Q E = WP (evs C es ρ h) (fun ds h => Opt (bltH k h ds) fun d => WP (mk n (some d) h) Q E) E := by
  rw [ev, WP_bnd]; exact WPe fun x h => W_mk
theorem W_mth {m : Mth} : WP (ev C (.mth n m a es) ρ h) Q E = WP (ev C a ρ h) (fun x h => rcv m h x = true ∧ WP (evs C es ρ h) (fun ds h => WP (mthH m h x ds) Q E) E) E := by
  rw [ev, WP_bnd]; refine WPe fun x h => ?_; rw [W_ifs, WP_bnd]
theorem W_val {Q : Walk → Hea → Prop} : WP (evi C (.val a) ρ h) Q E = WP (ev C a ρ h) (fun d h => Opt (walkV h d) fun w => Q w h) E := by
  rw [evi, WP_bnd]; exact WPe fun x h => W_lift
theorem W_rng {Q : Walk → Hea → Prop} : WP (evi C (.rng a) ρ h) Q E = WP (ev C a ρ h) (fun d h => IntV d fun j => (R62 0 = true ∧ R62 j = true) ∧ Q ⟨rngL 0 j, none⟩ h) E := by
  rw [evi, WP_bnd]; refine WPe fun x h => ?_
  cases x <;> try exact WP_stuck
  exact propext WP_walkR
theorem W_rng2 {Q : Walk → Hea → Prop} : WP (evi C (.rng2 a b) ρ h) Q E = WP (ev C a ρ h) (fun d h => WP (ev C b ρ h) (fun d' h => IntV d fun i => IntV d' fun j => (R62 i = true ∧ R62 j = true) ∧ Q ⟨rngL i j, none⟩ h) E) E := by
  rw [evi, WP_bnd]; refine WPe fun x h => ?_; rw [WP_bnd]; refine WPe fun y h => ?_
  cases x <;> cases y <;> try exact WP_stuck
  exact propext WP_walkR
theorem W_zip {Q : Walk → Hea → Prop} : WP (evi C (.zip a b) ρ h) Q E = WP (ev C a ρ h) (fun d h => WP (ev C b ρ h) (fun d' h => Opt (walkZ d d') fun w => Q w h) E) E := by
  rw [evi, WP_bnd]; refine WPe fun x h => ?_; rw [WP_bnd]; exact WPe fun y h => W_lift
theorem W_enu {Q : Walk → Hea → Prop} : WP (evi C (.enu a) ρ h) Q E = WP (ev C a ρ h) (fun d h => Opt (walkN d) fun w => Q w h) E := by
  rw [evi, WP_bnd]; exact WPe fun x h => W_lift
theorem W_trg {a : Ex} : WP (ev C (.trg a) ρ h) Q E = WP (ev C a ρ h) (fun d h => IntV d fun n => (0 ≤ n ∧ n ≤ 16777216) ∧ Q (.tup ((List.range n.toNat).map fun (i : Nat) => .int (i : Int))) h) E := by
  rw [ev, WP_bnd]; refine WPe fun x h => ?_
  cases x <;> try exact WP_stuck
  rename_i n
  show WP (if 0 ≤ n ∧ n ≤ 16777216 then mk false (some (.tup ((List.range n.toNat).map fun (i : Nat) => .int (i : Int)))) h else .stuck) Q E = ((0 ≤ n ∧ n ≤ 16777216) ∧ Q (.tup ((List.range n.toNat).map fun (i : Nat) => .int (i : Int))) h)
  by_cases hz : 0 ≤ n ∧ n ≤ 16777216
  · rw [if_pos hz]
    exact propext ⟨fun w => ⟨hz, by rw [mk_ff, WP_ok] at w; exact w⟩, fun w => by rw [mk_ff, WP_ok]; exact w.2⟩
  · rw [if_neg hz, WP_stuck]
    exact propext ⟨fun w => w.elim, fun w => absurd w.1 hz⟩
theorem W_glb {i : Int} : WP (ev C (.glb i) ρ h) Q E = Q (.int i) h := WP_ok
theorem W_lc {el : Ex} {tg : Tg} {it : It} {own : List Nat} : WP (ev C (.lc n el tg it .none own) ρ h) Q E = WP (evi C it ρ h) (fun w h => WP (lcL (fun ρ h => (ev C el ρ h).nox) (fun _ h => .ok true h) tg (wipeE ρ own) w.fin w.its [] h) (fun ds h => WP (mk n (some (.lst ds)) h) Q E) E) E := by
  rw [ev, WP_bnd]; refine WPe fun x h => ?_; rw [WP_bnd]
theorem W_lcc {el ce : Ex} {tg : Tg} {it : It} {own : List Nat} : WP (ev C (.lc n el tg it (.some ce) own) ρ h) Q E = WP (evi C it ρ h) (fun w h => WP (lcL (fun ρ h => (ev C el ρ h).nox) (fun ρ h => (tr C ce ρ h).nox) tg (wipeE ρ own) w.fin w.its [] h) (fun ds h => WP (mk n (some (.lst ds)) h) Q E) E) E := by
  rw [ev, WP_bnd]; refine WPe fun x h => ?_; rw [WP_bnd]
theorem W_chn {o o' : COp} : WP (ev C (.chn o o' a b c) ρ h) Q E = WP (ev C a ρ h) (fun x h => WP (ev C b ρ h) (fun y h => Opt (cop o h x y) fun d => BlV d fun k => Ite k (WP (ev C c ρ h) (fun z h => Opt (cop o' h y z) fun d => Q d h) E) (Q (.bl false) h)) E) E := by
  rw [ev, WP_bnd]; refine WPe fun x h => ?_; rw [WP_bnd]; refine WPe fun y h => ?_
  cases cop o h x y with
  | none => exact WP_stuck
  | some d =>
    cases d <;> try exact WP_stuck
    rename_i k
    cases k
    · rw [Opt_some, BlV_bl, Ite_ff]; exact WP_ok
    · rw [Opt_some, BlV_bl, Ite_tt]
      show WP ((ev C c ρ h).bnd fun z h => lift (cop o' h y z) h) Q E = _
      rw [WP_bnd]; exact WPe fun z h => W_lift
end
section
variable {C : CT} {ρ : Env} {h : Hea} {Q : Bool → Hea → Prop} {E : Xc → Hea → Prop} {a b c : Ex} {n : Bool} {es : Exs}
theorem T_blk {o : Option D} : WP (match o with | some (.bl k) => R.ok k h | _ => .stuck) Q E = Opt o fun d => BlV d fun k => Q k h := by
  cases o with
  | none => exact WP_stuck
  | some d => cases d <;> first | exact WP_ok | exact WP_stuck
theorem T_cmp {o : COp} : WP (tr C (.cmp o a b) ρ h) Q E = WP (ev C a ρ h) (fun x h => WP (ev C b ρ h) (fun y h => Opt (cop o h x y) fun d => BlV d fun k => Q k h) E) E := by
  rw [tr, WP_bnd]; refine WPe fun x h => ?_; rw [WP_bnd]; exact WPe fun y h => T_blk
theorem T_chn {o o' : COp} : WP (tr C (.chn o o' a b c) ρ h) Q E = WP (ev C a ρ h) (fun x h => WP (ev C b ρ h) (fun y h => Opt (cop o h x y) fun d => BlV d fun k => Ite k (WP (ev C c ρ h) (fun z h => Opt (cop o' h y z) fun d => BlV d fun k => Q k h) E) (Q false h)) E) E := by
  rw [tr, WP_bnd]; refine WPe fun x h => ?_; rw [WP_bnd]; refine WPe fun y h => ?_
  cases cop o h x y with
  | none => exact WP_stuck
  | some d =>
    cases d <;> try exact WP_stuck
    rename_i k
    cases k
    · rw [Opt_some, BlV_bl, Ite_ff]; exact WP_ok
    · rw [Opt_some, BlV_bl, Ite_tt]
      show WP ((ev C c ρ h).bnd fun z h => match cop o' h y z with | some (.bl k) => R.ok k h | _ => .stuck) Q E = _
      rw [WP_bnd]; exact WPe fun z h => T_blk
theorem T_land : WP (tr C (.land a b) ρ h) Q E = WP (tr C a ρ h) (fun k h => Ite k (WP (tr C b ρ h) Q E) (Q false h)) E := by
  rw [tr, WP_bnd]; exact WPe fun x h => by rw [W_if, WP_ok]
theorem T_lor : WP (tr C (.lor a b) ρ h) Q E = WP (tr C a ρ h) (fun k h => Ite k (Q true h) (WP (tr C b ρ h) Q E)) E := by
  rw [tr, WP_bnd]; exact WPe fun x h => by rw [W_if, WP_ok]
theorem T_lnot : WP (tr C (.lnot a) ρ h) Q E = WP (tr C a ρ h) (fun k h => Q (!k) h) E := by
  rw [tr, WP_bnd]; exact WPe fun x h => WP_ok
theorem T_ite : WP (tr C (.ite c a b) ρ h) Q E = WP (tr C c ρ h) (fun k h => Ite k (WP (tr C a ρ h) Q E) (WP (tr C b ρ h) Q E)) E := by
  rw [tr, WP_bnd]; exact WPe fun x h => W_if
theorem T_cst {d : D} : WP (tr C (.cst d) ρ h) Q E = Opt (tru h d) fun k => Q k h := by rw [tr, W_lift]
theorem T_nam {i : Nat} : WP (tr C (.nam i) ρ h) Q E = Nam ρ[i]? fun d => Opt (tru h d) fun k => Q k h := by
  rw [tr]
  rcases ρ[i]? with _ | _ | d
  · exact WP_stuck
  · exact WP_stuck
  · exact W_lift
theorem T_idx : WP (tr C (.idx a b) ρ h) Q E = WP (ev C a ρ h) (fun x h => WP (ev C b ρ h) (fun y h => Opt (ixH h x y) fun d => Opt (tru h d) fun k => Q k h) E) E := by
  rw [tr, WP_bnd]; refine WPe fun x h => ?_; rw [WP_bnd]; refine WPe fun y h => ?_; rw [WP_bnd, W_lift]
  cases ixH h x y with
  | none => rfl
  | some d => exact W_lift
theorem T_cal {g : Nat} : WP (tr C (.cal n g es) ρ h) Q E = WP (evs C es ρ h) (fun ds h => WP (if n = true then C g ds h else melt h.length (C g ds h)) (fun d h => Opt (tru h d) fun k => Q k h) E) E := by
  rw [tr, WP_bnd]; refine WPe fun x h => ?_; rw [WP_bnd]; exact WPe fun y h => W_lift
theorem T_blt {k : Blt} : WP (tr C (.blt n k es) ρ h) Q E = WP (evs C es ρ h) (fun ds h => Opt (bltH k h ds) fun d => WP (mk n (some d) h) (fun d h => Opt (tru h d) fun k => Q k h) E) E := by
  rw [tr, WP_bnd]; refine WPe fun x h => ?_; rw [WP_bnd, W_mk]
  cases bltH k h x with
  | none => rfl
  | some d => rw [Opt_some, Opt_some]; exact WPe fun y h => W_lift
theorem T_bin {o : BOp} : WP (tr C (.bin n o a b) ρ h) Q E = WP (ev C a ρ h) (fun x h => WP (ev C b ρ h) (fun y h => Opt (bop o h x y) fun d => WP (mk n (some d) h) (fun d h => Opt (tru h d) fun k => Q k h) E) E) E := by
  rw [tr, WP_bnd]; refine WPe fun x h => ?_; rw [WP_bnd]; refine WPe fun y h => ?_; rw [WP_bnd, W_mk]
  cases bop o h x y with
  | none => rfl
  | some d => rw [Opt_some, Opt_some]; exact WPe fun y h => W_lift
theorem T_mth {m : Mth} : WP (tr C (.mth n m a es) ρ h) Q E = WP (ev C a ρ h) (fun x h => rcv m h x = true ∧ WP (evs C es ρ h) (fun ds h => WP (mthH m h x ds) (fun d h => Opt (tru h d) fun k => Q k h) E) E) E := by
  rw [tr, WP_bnd]; refine WPe fun x h => ?_; rw [W_ifs, WP_bnd]
  congr 1
  refine WPe fun ds h => ?_
  rw [WP_bnd]
  exact WPe fun d h => W_lift
theorem tru_bl {k : Bool} : tru h (.bl k) = some k := rfl
theorem tru_int {k : Int} : tru h (.int k) = some (k != 0) := rfl
end
section
variable {C : CT} {ρ : Env} {h : Hea} {Q : Fl → Hea → Prop} {E : Xc → Hea → Prop} {e o i : Ex} {a b ss : List Sm} {s : Sm}
theorem B_nil : WP (exB C [] ρ h) Q E = Q (.nx ρ) h := WP_ok
theorem B_cons : WP (exB C (s :: ss) ρ h) Q E = WP (exS C s ρ h) (Nxt (fun ρ h => WP (exB C ss ρ h) Q E) Q) E := by
  rw [exB, WP_bnd]; exact WPe fun fl h => by cases fl <;> first | rfl | exact WP_ok
theorem S_exp : WP (exS C (.exp e) ρ h) Q E = WP (ev C e ρ h) (fun _ h => Q (.nx ρ) h) (fun x h => Q (.xc x ρ) h) := by
  rw [exS, WP_bns]; exact WPe fun x h => WP_ok
theorem S_set {i : Nat} : WP (exS C (.set i e) ρ h) Q E = WP (ev C e ρ h) (fun d h => Q (.nx (ρ.set i (some d))) h) (fun x h => Q (.xc x ρ) h) := by
  rw [exS, WP_bns]; exact WPe fun x h => WP_ok
theorem S_sti : WP (exS C (.sti o i e) ρ h) Q E = WP (ev C e ρ h) (fun d h => WP (ev C o ρ h) (fun x h => WP (ev C i ρ h) (fun y h => Opt (stiH h x y d) fun h => Q (.nx ρ) h) (fun x h => Q (.xc x ρ) h)) (fun x h => Q (.xc x ρ) h)) (fun x h => Q (.xc x ρ) h) := by
  rw [exS, WP_bns]; refine WPe fun d h => ?_; rw [WP_bns]; refine WPe fun x h => ?_; rw [WP_bns]; refine WPe fun y h => ?_
  cases stiH h x y d <;> first | exact WP_ok | exact WP_stuck
theorem S_ifs : WP (exS C (.ifs e a b) ρ h) Q E = WP (tr C e ρ h) (fun k h => Ite k (WP (exB C a ρ h) Q E) (WP (exB C b ρ h) Q E)) (fun x h => Q (.xc x ρ) h) := by
  rw [exS, WP_bns]; exact WPe fun x h => W_if
theorem S_whl : WP (exS C (.whl e b) ρ h) Q E = WP (whL (tr C e) (fun ρ h => exB C b ρ h) WF ρ h) Q E := by rw [exS]
theorem S_for {tg : Tg} {it : It} : WP (exS C (.for_ tg it b) ρ h) Q E = WP (evi C it ρ h) (fun w h => WP (frL (fun ρ h => exB C b ρ h) tg w.fin w.its ρ h) Q E) (fun x h => Q (.xc x ρ) h) := by rw [exS, WP_bns]
theorem S_ret : WP (exS C (.ret e) ρ h) Q E = WP (ev C e ρ h) (fun d h => Q (.rt d) h) (fun x h => Q (.xc x ρ) h) := by
  rw [exS, WP_bns]; exact WPe fun x h => WP_ok
theorem S_rtn : WP (exS C .rtn ρ h) Q E = Q (.rt .non) h := WP_ok
theorem S_brk : WP (exS C .brk ρ h) Q E = Q (.bk ρ) h := WP_ok
theorem S_cnt : WP (exS C .cnt ρ h) Q E = Q (.ct ρ) h := WP_ok
theorem S_unp {is : List Nat} : WP (exS C (.unp is e) ρ h) Q E = WP (ev C e ρ h) (fun d h => TupV h d fun ds => Opt (setAll is ds ρ) fun ρ => Q (.nx ρ) h) (fun x h => Q (.xc x ρ) h) := by
  rw [exS, WP_bns]; refine WPe fun d h => ?_
  unfold TupV
  cases seqV h d with
  | none => exact WP_stuck
  | some ds =>
    have e : ∀ o : Option Env, WP (match o with | some ρ => .ok (.nx ρ) h | none => .stuck) Q E = Opt o fun ρ => Q (.nx ρ) h := fun o => by cases o <;> first | exact WP_ok | exact WP_stuck
    exact e _
end
/-- a cut between statements -/
theorem B_seq {C : CT} {ρ : Env} {h : Hea} {Q : Fl → Hea → Prop} {E : Xc → Hea → Prop} {s : Sm} {ss : List Sm} (I : Env → Hea → Prop) (h1 : WP (exS C s ρ h) (Nxt I Q) E) (h2 : ∀ ρ h, I ρ h → WP (exB C ss ρ h) Q E) : WP (exB C (s :: ss) ρ h) Q E := by
  rw [B_cons]
  refine h1.mono fun fl h' q => ?_
  cases fl with
  | nx ρ => exact h2 ρ h' q
  | _ => exact q
/-- a call whose list is kept -/
theorem melt_val {n : Nat} {h : Hea} {d : D} (hd : ∀ a, d ≠ .ref a) : melt n (.ok d h) = .ok d h := by cases d <;> first | rfl | exact absurd rfl (hd _)
theorem W_melt {n : Nat} {r : R D} {Q : D → Hea → Prop} {E : Xc → Hea → Prop} (w : WP r (fun d h => match d with | .ref a => ∃ ds h', h = .lst ds :: h' ∧ a = h'.length ∧ n ≤ a ∧ Q (.lst ds) h' | d => Q d h) E) : WP (melt n r) Q E := by
  obtain ⟨w⟩ := w
  cases r with
  | ok d h =>
    cases d with
    | ref a =>
      obtain ⟨ds, h', rfl, e, l, q⟩ := w
      show WP (if a = h'.length ∧ n ≤ a then .ok (.lst ds) h' else .stuck) Q E
      rw [if_pos ⟨e, l⟩]
      exact ⟨q⟩
    | _ => exact ⟨w⟩
  | ex x h => exact ⟨w⟩
  | stuck => exact ⟨w⟩
end MP

/-! Drawn numbers. -/
namespace MP
open PySem
local macro_rules | `(tactic| trivial) => `(tactic| try simp -implicitDefEqProofs only [WP_ok, WP_nox, Nam_some, Opt_some, Opt_if, Ite_tt, Ite_ff, IntV_int, TupV_tup, setAll, BlV_bl, ↓Nxt_nx, ↓Nxt_rt, ↓Nxt_bk, ↓Nxt_ct, ↓Nxt_xc, ↓Bod_nx, ↓Bod_ct, ↓Bod_bk, ↓Bod_rt, ↓Bod_xc, ↓Ret_rt, ↓Ret_nx, ↓Ret_xc,
  ↓W_cst, ↓W_nam, ↓W_bin, ↓W_neg, ↓W_cmp, ↓W_land, ↓W_lor, ↓W_lnot, ↓W_ite, ↓W_nil, ↓W_cons, ↓W_tup, ↓W_lst, ↓W_dic, ↓W_idx, ↓W_ono, ↓W_oso, ↓W_slc, ↓W_cal, ↓W_blt, ↓W_mth, ↓W_val, ↓W_rng, ↓W_rng2, ↓W_zip, ↓W_enu, ↓W_glb, ↓W_lc, ↓W_lcc, ↓W_chn,
  ↓T_cmp, ↓T_chn, ↓T_land, ↓T_lor, ↓T_lnot, ↓T_ite, ↓T_cst, ↓T_nam, ↓T_idx, ↓T_cal, ↓T_blt, ↓T_bin, tru_bl, tru_int, B_nil, S_exp, S_set, S_sti, S_ifs, S_whl, S_for, S_ret, S_rtn, S_brk, S_cnt, S_unp,
  bop_add, bop_sub, bop_mul, bop_fdiv, bop_mod, bop_pow, bop_shl, bop_shr, bop_and, bop_or, bop_xor, bop_tup, bop_str, bop_smul, bop_rep, bop_cat, cop_eq_int, cop_ne_int, cop_lt_int, cop_le_int, cop_gt_int, cop_ge_int, cop_isB, cop_notB, mk_int', mk_bl', mk_non', mk_str', mk_tup', mk_ff, mk_tt, mk_ttD,
  bl_len_scr, bl_len_lst, bl_len_tup, bl_len_str, bl_abs, bl_max, bl_min, bl_int, bl_intb, bl_str, bl_tuple_lst, bl_tuple_tup, bl_list_lst, bl_list_tup, bl_all, bl_any, bl_sum, bl_isi, isi_int, isi_bl, isi_str, isi_tup, isi_lst, isi_non, isi_dic, omap_some, isTy, List.any_cons, List.any_nil, Bool.or_false, Bool.or_true, Bool.true_or, Bool.false_or,
  leave_int, leave_bl, leave_non, leave_str, walkV_lst, walkV_tup, wipeE, if_true, decide_true, decide_false, Int.cast_ofNat_Int, Int.natCast_zero, Int.natCast_one, Bool.false_eq_true, if_false, Bool.not_true, Bool.not_false, true_and, and_true, ne_eq, not_false_eq_true,
  start, List.map_cons, List.map_nil, List.length_cons, List.length_nil, List.replicate, List.cons_append, List.nil_append, List.set_cons_zero, List.set_cons_succ, List.getElem?_cons_zero, List.getElem?_cons_succ, Nat.reduceSub, Nat.reduceAdd, Int.reduceEq, Int.reduceLE, Int.reduceLT, Int.reducePow, Int.reduceToNat, Nat.reduceLT, Nat.reduceLeDiff, Int.reduceNeg, Nat.reducePow, bindT_one])
theorem SL_3 : (3 : Nat) ≤ SL := by unfold SL; omega
theorem pen_ok {C : CT} {ns : List Int} {i : Nat} {h : Hea} {E : Xc → Hea → Prop} (hi : i ≤ 100) : WP (exF C penF [.scr ns, .int i] h) (fun d h' => ∃ x y : Int, d = .ref h.length ∧ h' = .lst [.int x, .int y, .int 0] :: h ∧ 0 ≤ x) E := by
  refine WP_exF rfl ?_
  simp only [penF]
  rw [B_cons]
  trivial
  refine B_seq (fun ρ h' => ∃ c : Int, ρ = [some (.scr ns), some (.int i), some (.int c), none] ∧ h' = h) ?_ ?_
  · trivial
    refine IteD (fun hi => ?_) (fun hi => ?_)
    · rw [B_cons]
      trivial
      have hi' : (i : Int).toNat < ns.length := by omega
      rw [ix_scr (plc_int (by omega) hi), List.getElem?_eq_getElem hi']
      trivial
      exact ⟨_, rfl⟩
    · trivial
      exact ⟨_, rfl⟩
  rintro ρ h' ⟨c, rfl, rfl⟩
  rw [B_cons]
  trivial
  refine B_seq (fun ρ h2 => ∃ x : Int, ρ = [some (.scr ns), some (.int i), some (.int c), some (.int x)] ∧ h2 = h' ∧ 0 ≤ x) ?_ ?_
  · trivial
    refine IteD (fun hi => ?_) (fun hi => ?_)
    · rw [B_cons]; trivial
      exact ⟨_, rfl, Int.le_refl 0⟩
    · trivial
      exact ⟨_, rfl, by split <;> omega⟩
  rintro ρ h2 ⟨x, rfl, rfl, hx⟩
  rw [B_cons]
  trivial
  refine ⟨by simp [small_of], by rw [small_of (by omega) (by omega)]; rfl, SL_3, ?_⟩
  rw [leave_new (Nat.le_refl _) get_top (by simp), trunc_cons (Nat.le_refl _), trunc_self]
  exact ⟨_, _, rfl, rfl, hx⟩
theorem pick_ok {C : CT} {t a : Nat} {many : Int} {h : Hea} {E : Xc → Hea → Prop} (p : Pen t h a) (ht : t ≤ 1152921504606846976) (h0 : 0 < many) (h1 : many < 1073741824) :
    WP (exF C pickF [.ref a, .int many] h) (fun d h' => ∃ (i : Int) (c : Cell), d = .int i ∧ 0 ≤ i ∧ i < many ∧ h' = put h a c ∧ Pen (t + 1) h' a) E := by
  obtain ⟨x, y, z, g, hx, hz, hzt⟩ := p
  have la : a < h.length := get_lt g
  have i0 : ∀ h' : Hea, get h' a = some (.lst [.int x, .int y, .int z]) → ixH h' (.ref a) (.int 0) = some (.int x) := fun h' g => ix_ref (i := 0) (k := 0) g rfl
  refine WP_exF rfl ?_
  simp only [pickF]
  rw [B_cons]
  trivial
  rw [i0 h g]
  trivial
  refine IteD (fun hi => ?_) (fun hi => ?_)
  · rw [B_cons]
    trivial
    rw [i0 h g]
    trivial
    refine ⟨by omega, ?_⟩
    rw [B_cons]
    trivial
    rw [i0 h g]
    trivial
    refine ⟨⟨by omega, by omega, by omega⟩, ?_⟩
    rw [sti_ok (i := 0) (k := 0) g rfl below_int]
    trivial
    rw [B_cons]
    trivial
    have f := trunc_put (h := h) (a := a) (x := Cell.lst [D.int (x.fdiv many), .int y, .int z])
    rw [f]
    refine ⟨_, _, rfl, Int.fmod_nonneg (by omega) (by omega), Int.fmod_lt_of_pos _ h0, rfl, x.fdiv many, y, z, get_put_same la, ?_, hz, by omega⟩
    rw [Int.fdiv_eq_ediv_of_nonneg _ (by omega)]
    exact Int.ediv_nonneg hx (by omega)
  · try trivial
    have i2 : ixH h (.ref a) (.int 2) = some (.int z) := ix_ref (i := 2) (k := 2) g rfl
    rw [B_cons]
    trivial
    rw [i2]
    trivial
    rw [B_cons]
    trivial
    rw [sti_ok (i := 2) (k := 2) g rfl below_int]
    trivial
    have g2 : get (put h a (.lst [.int x, .int y, .int (z + 1)])) a = some (.lst [.int x, .int y, .int (z + 1)]) := get_put_same la
    have i1 : ixH (put h a (.lst [.int x, .int y, .int (z + 1)])) (.ref a) (.int 1) = some (.int y) := ix_ref (i := 1) (k := 1) g2 rfl
    rw [B_cons]
    trivial
    rw [i1]
    trivial
    refine ⟨?_, ?_⟩
    · rw [small_of (i := 52774) (by omega) (by omega)]; rfl
    refine ⟨?_, ?_⟩
    · rw [small_of (i := z + 1) (by omega) (by omega), Bool.or_true]
    refine ⟨?_, ?_⟩
    · rw [small_of (i := 40014) (by omega) (by omega)]; rfl
    have mod_small : ∀ (u k : Int), 0 < k → k < 2 ^ 62 → small (u.fmod k) = true := fun u k k0 k1 => small_of (by have := Int.fmod_nonneg_of_pos u k0; omega) (by have := Int.fmod_lt_of_pos u k0; omega)
    rw [B_cons]
    trivial
    refine ⟨?_, ?_⟩
    · rw [mod_small _ _ (by omega) (by omega)]; rfl
    refine ⟨?_, ?_⟩
    · rw [small_of (i := 30323) (by omega) (by omega)]; rfl
    rw [B_cons]
    trivial
    refine ⟨?_, ?_⟩
    · rw [mod_small _ _ (by omega) (by omega)]; rfl
    refine ⟨?_, ?_⟩
    · rw [small_of (i := 16807) (by omega) (by omega)]; rfl
    rw [B_cons]
    trivial
    refine ⟨by omega, ?_⟩
    have f := trunc_put (h := h) (a := a) (x := Cell.lst [D.int x, .int y, .int (z + 1)])
    rw [f]
    exact ⟨_, _, rfl, Int.fmod_nonneg_of_pos _ h0, Int.fmod_lt_of_pos _ h0, rfl, x, y, z + 1, g2, hx, by omega, by omega⟩
section
variable {α : Type} {el : Env → Hea → R D} {v : Nat} {ρ : Env} {h : Hea} {Q : List D → Hea → Prop} {E : Xc → Hea → Prop}
theorem ok_of {β : Type} {r : R β} {a : β} (w : WP r (fun a' h' => a' = a ∧ h' = h) NX) : r = .ok a h := by
  obtain ⟨w⟩ := w
  cases r with
  | ok a' h' => obtain ⟨rfl, rfl⟩ := w; rfl
  | ex x h' => exact w.elim
  | stuck => exact w.elim
theorem wp_of {β : Type} {r : R β} {a : β} {Q : β → Hea → Prop} (e : r = .ok a h) (q : Q a h) : WP r Q E := by rw [e]; exact ⟨q⟩
theorem W_lcmap {xs : List α} (emb f : α → D) (hl : xs.length ≤ SL) (hs : ∀ x ∈ xs, WP (el (ρ.set v (some (emb x))) h) (fun d h' => d = f x ∧ h' = h) NX) (hb : ∀ x ∈ xs, below h.length (f x) = true) (q : Q (xs.map f) h) :
    WP (lcL el (fun _ h => .ok true h) (.one v) ρ none ((xs.map emb).map .v) [] h) Q E := by
  have main : ∀ (n i : Nat), i + n = xs.length → WP (lcL el (fun _ h => .ok true h) (.one v) ρ none (((xs.drop i).map emb).map .v) ((xs.take i).map f) h) Q E := by
    intro n
    induction n with
    | zero =>
      intro i hi
      rw [List.drop_eq_nil_of_le (by omega), List.take_of_length_le (by omega)]
      exact ⟨q⟩
    | succ n ih =>
      intro i hi
      have hi' : i < xs.length := by omega
      rw [List.drop_eq_getElem_cons hi', List.map_cons, List.map_cons]
      have e := ok_of (hs xs[i] (List.getElem_mem hi'))
      have b := hb xs[i] (List.getElem_mem hi')
      unfold lcL
      show WP ((el (ρ.set v (some (emb xs[i]))) h).bnd fun d h => if ((xs.take i).map f).length < SL ∧ below h.length d = true then lcL el (fun _ h => .ok true h) (.one v) ρ none (((xs.drop (i + 1)).map emb).map .v) ((xs.take i).map f ++ [d]) h else .stuck) Q E
      rw [e]
      show WP (if ((xs.take i).map f).length < SL ∧ below h.length (f xs[i]) = true then lcL el (fun _ h => .ok true h) (.one v) ρ none (((xs.drop (i + 1)).map emb).map .v) ((xs.take i).map f ++ [f xs[i]]) h else .stuck) Q E
      rw [if_pos ⟨by rw [List.length_map, List.length_take]; omega, b⟩]
      have := ih (i + 1) (by omega)
      rwa [List.take_add_one, List.getElem?_eq_getElem hi', Option.toList_some, List.map_append, List.map_cons, List.map_nil] at this
  have := main xs.length 0 (by omega)
  rwa [List.drop_zero, List.take_zero, List.map_nil] at this
theorem W_lcrng {n : Int} (f : Nat → D) (hl : n ≤ 16777216) (hs : ∀ k : Nat, (k : Int) < n → WP (el (ρ.set v (some (.int k))) h) (fun d h' => d = f k ∧ h' = h) NX) (hb : ∀ k : Nat, (k : Int) < n → below h.length (f k) = true) (q : Q ((List.range n.toNat).map f) h) :
    WP (lcL el (fun _ h => .ok true h) (.one v) ρ none (rngL 0 n) [] h) Q E := by
  rw [rngL_val]
  have e : (n - 0).toNat = n.toNat := by rw [Int.sub_zero]
  rw [e]
  refine W_lcmap (xs := List.range n.toNat) (fun i : Nat => D.int (0 + (i : Int))) f (by unfold SL; rw [List.length_range]; omega) (fun k hk => ?_) (fun k hk => hb k (by have := List.mem_range.mp hk; omega)) q
  have := hs k (by have := List.mem_range.mp hk; omega)
  show WP (el (ρ.set v (some (.int (0 + (k : Int))))) h) _ _
  rw [Int.zero_add]
  exact this
end
theorem W_meltV {n : Nat} {r : R D} {Q : D → Hea → Prop} {E : Xc → Hea → Prop} (w : WP r (fun d h => (∀ a, d ≠ .ref a) ∧ Q d h) E) : WP (melt n r) Q E := by
  obtain ⟨w⟩ := w
  cases r with
  | ok d h =>
    obtain ⟨hd, q⟩ := (show (∀ a, d ≠ .ref a) ∧ Q d h from w)
    rw [melt_val hd]; exact ⟨q⟩
  | ex x h => exact ⟨w⟩
  | stuck => exact ⟨w⟩
theorem W_meltI {n : Nat} {r : R D} {P : Int → Hea → Prop} {Q : D → Hea → Prop} {E : Xc → Hea → Prop} (w : WP r (fun d h => ∃ i, d = .int i ∧ P i h) E) (k : ∀ i h, P i h → Q (.int i) h) : WP (melt n r) Q E :=
  W_meltV (w.mono fun d h ⟨i, e, p⟩ => by subst e; exact ⟨fun a z => (nomatch z), k i h p⟩)
theorem W_meltB {n : Nat} {r : R D} {P : Bool → Hea → Prop} {Q : D → Hea → Prop} {E : Xc → Hea → Prop} (w : WP r (fun d h => ∃ i, d = .bl i ∧ P i h) E) (k : ∀ i h, P i h → Q (.bl i) h) : WP (melt n r) Q E :=
  W_meltV (w.mono fun d h ⟨i, e, p⟩ => by subst e; exact ⟨fun a z => (nomatch z), k i h p⟩)
/-- a list that is told, its cell given up -/
theorem W_meltL {n : Nat} {r : R D} {P : List D → Hea → Prop} {Q : D → Hea → Prop} {E : Xc → Hea → Prop} (w : WP r (fun d h => ∃ ds h', d = .ref h'.length ∧ h = .lst ds :: h' ∧ n ≤ h'.length ∧ P ds h') E) (k : ∀ ds h, P ds h → Q (.lst ds) h) : WP (melt n r) Q E :=
  W_melt (w.mono fun d h ⟨ds, h', e1, e2, l, p⟩ => by subst e1 e2; exact ⟨ds, h', rfl, rfl, l, k ds h' p⟩)
/-- a pick as it is called -/
def PickOk (C : CT) (g : Nat) : Prop := ∀ (t a : Nat) (many : Int) (h : Hea), Pen t h a → t ≤ 1152921504606846976 → 0 < many → many < 1073741824 →
  WP (C g [.ref a, .int many] h) (fun d h' => ∃ i : Int, d = .int i ∧ (0 ≤ i ∧ i < many ∧ (∃ c, h' = put h a c) ∧ Pen (t + 1) h' a)) NX
theorem PickOk.mk {Fs : List Fn} {k g : Nat} (e : Fs[g]? = some pickF) : PickOk (run Fs (k + 1)) g := fun t a many h p ht h0 h1 => by
  rw [run_at e]
  exact (pick_ok p ht h0 h1).mono fun d h' ⟨i, c, e1, e2, e3, e4, e5⟩ => ⟨i, e1, e2, e3, ⟨c, e4⟩, e5⟩
theorem PickOk.call {C : CT} {g : Nat} (P : PickOk C g) {t a n : Nat} {many : Int} {h : Hea} {Q : D → Hea → Prop} {E : Xc → Hea → Prop} (p : Pen t h a) (ht : t ≤ 1152921504606846976) (h0 : 0 < many) (h1 : many < 1073741824)
    (k : ∀ (i : Int) (h' : Hea), 0 ≤ i → i < many → (∃ c, h' = put h a c) → Pen (t + 1) h' a → Q (.int i) h') : WP (melt n (C g [.ref a, .int many] h)) Q E :=
  W_meltI ((P t a many h p ht h0 h1).nx fun d h' q => q) fun i h' ⟨h1, h2, h3, h4⟩ => k i h' h1 h2 h3 h4
end MP

/-! Words, tables: what the program's own defs tell. -/
namespace MP
open PySem
local macro_rules | `(tactic| trivial) => `(tactic| try simp -implicitDefEqProofs only [WP_ok, WP_nox, Nam_some, Opt_some, Opt_if, Ite_tt, Ite_ff, IntV_int, TupV_tup, setAll, BlV_bl, ↓Nxt_nx, ↓Nxt_rt, ↓Nxt_bk, ↓Nxt_ct, ↓Nxt_xc, ↓Bod_nx, ↓Bod_ct, ↓Bod_bk, ↓Bod_rt, ↓Bod_xc, ↓Ret_rt, ↓Ret_nx, ↓Ret_xc,
  ↓W_cst, ↓W_nam, ↓W_bin, ↓W_neg, ↓W_cmp, ↓W_land, ↓W_lor, ↓W_lnot, ↓W_ite, ↓W_nil, ↓W_cons, ↓W_tup, ↓W_lst, ↓W_dic, ↓W_idx, ↓W_ono, ↓W_oso, ↓W_slc, ↓W_cal, ↓W_blt, ↓W_mth, ↓W_val, ↓W_rng, ↓W_rng2, ↓W_zip, ↓W_enu, ↓W_glb, ↓W_lc, ↓W_lcc, ↓W_chn,
  ↓T_cmp, ↓T_chn, ↓T_land, ↓T_lor, ↓T_lnot, ↓T_ite, ↓T_cst, ↓T_nam, ↓T_idx, ↓T_cal, ↓T_blt, ↓T_bin, tru_bl, tru_int, B_nil, S_exp, S_set, S_sti, S_ifs, S_whl, S_for, S_ret, S_rtn, S_brk, S_cnt, S_unp,
  bop_add, bop_sub, bop_mul, bop_fdiv, bop_mod, bop_pow, bop_shl, bop_shr, bop_and, bop_or, bop_xor, bop_tup, bop_str, bop_smul, bop_rep, bop_cat, cop_eq_int, cop_ne_int, cop_lt_int, cop_le_int, cop_gt_int, cop_ge_int, cop_isB, cop_notB, mk_int', mk_bl', mk_non', mk_str', mk_tup', mk_ff, mk_tt, mk_ttD,
  bl_len_scr, bl_len_lst, bl_len_tup, bl_len_str, bl_abs, bl_max, bl_min, bl_int, bl_intb, bl_str, bl_tuple_lst, bl_tuple_tup, bl_list_lst, bl_list_tup, bl_all, bl_any, bl_sum, bl_isi, isi_int, isi_bl, isi_str, isi_tup, isi_lst, isi_non, isi_dic, omap_some, isTy, List.any_cons, List.any_nil, Bool.or_false, Bool.or_true, Bool.true_or, Bool.false_or,
  leave_int, leave_bl, leave_non, leave_str, walkV_lst, walkV_tup, wipeE, if_true, decide_true, decide_false, Int.cast_ofNat_Int, Int.natCast_zero, Int.natCast_one, Bool.false_eq_true, if_false, Bool.not_true, Bool.not_false, Nat.zero_le, true_and, and_true, ne_eq, not_false_eq_true,
  start, List.map_cons, List.map_nil, List.length_cons, List.length_nil, List.replicate, List.cons_append, List.nil_append, List.set_cons_zero, List.set_cons_succ, List.getElem?_cons_zero, List.getElem?_cons_succ, Nat.reduceSub, Nat.reduceAdd, Int.reduceEq, Int.reduceLE, Int.reduceLT, Int.reducePow, Int.reduceToNat, Nat.reduceLT, Nat.reduceLeDiff, Int.reduceNeg, Nat.reducePow, bindT_one])

/-- a tuple of whole numbers -/
def dI (xs : List Int) : D := .tup (xs.map .int)
theorem nb_ints : ∀ {xs : List Int}, nbs (xs.map D.int) = true
  | [] => by rw [List.map_nil]; unfold nbs; rfl
  | x :: xs => by rw [List.map_cons]; unfold nbs; rw [nb_int, nb_ints]; rfl
theorem nb_dI {xs : List Int} : nb (dI xs) = true := by unfold dI nb; exact nb_ints
theorem depAll_ints : ∀ {xs : List Int}, PyData.depthAll (toPys (xs.map D.int)) = 0
  | [] => by simp [toPys, PyData.depthAll]
  | x :: xs => by
    have := depAll_ints (xs := xs)
    rw [List.map_cons]
    simp only [toPys, toPy, PyData.depthAll, PyData.depth, this]; rfl
theorem dep_dI {xs : List Int} : dep (dI xs) = 1 := by unfold dI; rw [dep_tup, depAll_ints]
theorem dI_inj {xs ys : List Int} (e : dI xs = dI ys) : xs = ys := by
  unfold dI at e
  injection e with e
  have : ∀ (xs ys : List Int), xs.map D.int = ys.map D.int → xs = ys := by
    intro xs
    induction xs with
    | nil => intro ys e; cases ys with | nil => rfl | cons _ _ => simp at e
    | cons x xs ih =>
      intro ys e
      cases ys with
      | nil => simp at e
      | cons y ys => simp only [List.map_cons, List.cons.injEq, D.int.injEq] at e; rw [e.1, ih ys e.2]
  exact this xs ys e

/-! ### words -/
def bits (p n : Nat) : List Int := (List.range p).map fun k => ((n / 2 ^ (p - 1 - k) % 2 : Nat) : Int)
def wordsD (p : Nat) : List D := (List.range (2 ^ p)).map fun n => dI (bits p n)
def wordByF : Fn := ⟨2, 3, false,
   [.ret (.blt true .tuple (.cons (.lc false (.bin false .band (.bin false .shr (.nam 1) (.bin false .sub (.bin false .sub (.nam 0) (.cst (.int 1))) (.nam 2))) (.cst (.int 1))) (.one 2) (.rng (.nam 0)) .none [2]) .nil))]⟩
def allWordsF (g : Nat) : Fn := ⟨1, 2, false,
   [.ret (.lc true (.cal false g (.cons (.nam 0) (.cons (.nam 1) .nil))) (.one 1) (.rng (.bin false .shl (.cst (.int 1)) (.nam 0))) .none [1])]⟩
def heightF : Fn := ⟨1, 2, false,
   [.set 1 (.cst (.int 0)),
    .whl (.cmp .lt (.bin false .shl (.cst (.int 1)) (.nam 1)) (.nam 0))
     [.set 1 (.bin false .add (.nam 1) (.cst (.int 1)))],
    .ret (.nam 1)]⟩
theorem R62_nat {p : Nat} (h : p < 4611686018427387904) : R62 (p : Int) = true := R62_of (by omega) (by omega)
theorem R62_0 : R62 0 = true := by decide
theorem word_by_ok {C : CT} {p n : Nat} {h : Hea} {E : Xc → Hea → Prop} (hp : p ≤ 100) : WP (exF C wordByF [.int p, .int n] h) (fun d h' => d = dI (bits p n) ∧ h' = h) E := by
  refine WP_exF rfl ?_
  simp only [wordByF]
  rw [B_cons]
  trivial
  refine ⟨⟨R62_0, R62_nat (by omega)⟩, W_lcrng (fun k => .int ((n / 2 ^ (p - 1 - k) % 2 : Nat) : Int)) (by omega) (fun k hk => ?_) (fun k _ => below_int) ?_⟩
  · trivial
    refine ⟨by omega, ?_⟩
    rw [PyProof.Rows.bitAnd_m1]
    have e : ((p : Int) - 1 - (k : Int)).toNat = p - 1 - k := by omega
    rw [e]
    norm_cast
  · trivial
    have e : (p : Int).toNat = p := by omega
    rw [e, leave_tup (by simp [belows_map]), WP_ok]
    refine ⟨?_, trunc_self⟩
    unfold dI bits
    rw [List.map_map]; rfl
theorem bits_len {p n : Nat} : (bits p n).length = p := by unfold bits; simp
theorem all_words_ok {C : CT} {g p : Nat} {h : Hea} {E : Xc → Hea → Prop} (hp : p ≤ 20) (hC : ∀ n : Nat, WP (C g [.int p, .int n] h) (fun d h' => d = dI (bits p n) ∧ h' = h) NX) : WP (exF C (allWordsF g) [.int p] h) (fun d h' => d = .ref h.length ∧ h' = .lst (wordsD p) :: h) E := by
  have hz : ((2 ^ p : Nat) : Int) ≤ 16777216 := by
    have : 2 ^ p ≤ 2 ^ 20 := Nat.pow_le_pow_right (by omega) hp
    omega
  have e2 : (1 : Int) * 2 ^ (p : Int).toNat = ((2 ^ p : Nat) : Int) := by
    rw [Int.toNat_natCast, Int.one_mul]; norm_cast
  refine WP_exF rfl ?_
  simp only [allWordsF]
  rw [B_cons]
  trivial
  rw [e2]
  refine ⟨by omega, ⟨R62_0, R62_of (Int.le_trans (by decide) (Int.natCast_nonneg _)) (Int.lt_of_le_of_lt hz (by decide))⟩, W_lcrng (fun k => dI (bits p k)) hz (fun k hk => ?_) (fun k _ => by unfold dI; simp) ?_⟩
  · trivial
    refine W_melt ((hC k).mono fun d h' ⟨e1, e2⟩ => ?_)
    subst e1 e2
    exact ⟨rfl, rfl⟩
  · try trivial
    rw [Int.toNat_natCast, leave_new (Nat.le_refl _) get_top (belows_map fun _ _ => by unfold dI; simp), trunc_cons (Nat.le_refl _), trunc_self, WP_ok]
    exact ⟨rfl, rfl⟩
theorem height_ok {C : CT} {n : Int} {K : Nat} {h : Hea} {E : Xc → Hea → Prop} (hK : K ≤ 1000) (hn : n ≤ 2 ^ K) : WP (exF C heightF [.int n] h) (fun d h' => ∃ k : Nat, d = .int k ∧ h' = h ∧ n ≤ 2 ^ k ∧ (0 < k → (2 : Int) ^ (k - 1) < n) ∧ k ≤ K) E := by
  refine WP_exF rfl ?_
  simp only [heightF]
  rw [B_cons]
  trivial
  refine B_seq (fun ρ h' => ∃ k : Nat, ρ = [some (.int n), some (.int k)] ∧ h' = h ∧ n ≤ 2 ^ k ∧ (0 < k → (2 : Int) ^ (k - 1) < n) ∧ k ≤ K) ?_ ?_
  · trivial
    refine whL_ind (fun m ρ h' => ∃ k : Nat, ρ = [some (.int n), some (.int k)] ∧ h' = h ∧ (0 < k → (2 : Int) ^ (k - 1) < n) ∧ k + m = K) ?_ WF K _ _ (by unfold WF; omega) ⟨0, rfl, rfl, fun z => absurd z (by omega), by omega⟩
    rintro m ρ h' ⟨k, rfl, rfl, hk, hm⟩
    trivial
    have e2 : (1 : Int) * 2 ^ (k : Int).toNat = 2 ^ k := by rw [Int.toNat_natCast, Int.one_mul]
    rw [e2]
    refine ⟨⟨by omega, by omega⟩, ?_⟩
    split
    · rename_i hc
      have hc := of_decide_eq_true hc
      have hkK : k < K := by
        rcases Nat.lt_or_ge k K with z | z
        · exact z
        · exfalso
          have : (2 : Int) ^ K ≤ 2 ^ k := by
            have := Nat.pow_le_pow_right (n := 2) (by omega) z
            exact_mod_cast this
          omega
      rw [B_cons]
      trivial
      exact ⟨m - 1, by omega, k + 1, rfl, fun _ => by simpa using hc, by omega⟩
    · rename_i hc
      have hc : ¬ (2 : Int) ^ k < n := by simpa using hc
      try trivial
      exact ⟨k, rfl, by omega, hk, by omega⟩
  rintro ρ h' ⟨k, rfl, rfl, h1, h2, h3⟩
  rw [B_cons]
  trivial
  exact ⟨k, rfl, trunc_self, h1, h2, h3⟩
end MP

/-! Drawn numbers from a pen that is a dict; sayings grown. -/
namespace MP
open PySem
local macro_rules | `(tactic| trivial) => `(tactic| try simp -implicitDefEqProofs only [WP_ok, WP_nox, Nam_some, Opt_some, Opt_if, Ite_tt, Ite_ff, IntV_int, TupV_tup, setAll, BlV_bl, ↓Nxt_nx, ↓Nxt_rt, ↓Nxt_bk, ↓Nxt_ct, ↓Nxt_xc, ↓Bod_nx, ↓Bod_ct, ↓Bod_bk, ↓Bod_rt, ↓Bod_xc, ↓Ret_rt, ↓Ret_nx, ↓Ret_xc,
  ↓W_cst, ↓W_nam, ↓W_bin, ↓W_neg, ↓W_cmp, ↓W_land, ↓W_lor, ↓W_lnot, ↓W_ite, ↓W_nil, ↓W_cons, ↓W_tup, ↓W_lst, ↓W_dic, ↓W_idx, ↓W_ono, ↓W_oso, ↓W_slc, ↓W_cal, ↓W_blt, ↓W_mth, ↓W_val, ↓W_rng, ↓W_rng2, ↓W_zip, ↓W_enu, ↓W_glb, ↓W_lc, ↓W_lcc, ↓W_chn,
  ↓T_cmp, ↓T_chn, ↓T_land, ↓T_lor, ↓T_lnot, ↓T_ite, ↓T_cst, ↓T_nam, ↓T_idx, ↓T_cal, ↓T_blt, ↓T_bin, tru_bl, tru_int, B_nil, S_exp, S_set, S_sti, S_ifs, S_whl, S_for, S_ret, S_rtn, S_brk, S_cnt, S_unp,
  bop_add, bop_sub, bop_mul, bop_fdiv, bop_mod, bop_pow, bop_shl, bop_shr, bop_and, bop_or, bop_xor, bop_tup, bop_str, bop_smul, bop_rep, bop_cat, cop_eq_int, cop_ne_int, cop_lt_int, cop_le_int, cop_gt_int, cop_ge_int, cop_isB, cop_notB, mk_int', mk_bl', mk_non', mk_str', mk_tup', mk_ff, mk_tt, mk_ttD,
  bl_len_scr, bl_len_lst, bl_len_tup, bl_len_str, bl_abs, bl_max, bl_min, bl_int, bl_intb, bl_str, bl_tuple_lst, bl_tuple_tup, bl_list_lst, bl_list_tup, bl_all, bl_any, bl_sum, bl_isi, isi_int, isi_bl, isi_str, isi_tup, isi_lst, isi_non, isi_dic, omap_some, isTy, List.any_cons, List.any_nil, Bool.or_false, Bool.or_true, Bool.true_or, Bool.false_or,
  leave_int, leave_bl, leave_non, leave_str, walkV_lst, walkV_tup, wipeE, if_true, decide_true, decide_false, Int.cast_ofNat_Int, Int.natCast_zero, Int.natCast_one, Bool.false_eq_true, if_false, Bool.not_true, Bool.not_false, Nat.zero_le, true_and, and_true, ne_eq, not_false_eq_true,
  start, List.map_cons, List.map_nil, List.length_cons, List.length_nil, List.replicate, List.cons_append, List.nil_append, List.set_cons_zero, List.set_cons_succ, List.getElem?_cons_zero, List.getElem?_cons_succ, Nat.reduceSub, Nat.reduceAdd, Int.reduceEq, Int.reduceLE, Int.reduceLT, Int.reducePow, Int.reduceToNat, Nat.reduceLT, Nat.reduceLeDiff, Int.reduceNeg, Nat.reducePow, bindT_one])
def penDF : Fn := ⟨1, 1, false,
   [.ret (.dic true (.cons (.cst (.str [115, 99, 114, 105, 112, 116])) (.cons (.nam 0) (.cons (.cst (.str [97, 116])) (.cons (.cst (.int 0)) (.cons (.cst (.str [108, 101, 102, 116])) (.cons (.cst (.int 0)) .nil)))))))]⟩
def drawF : Fn := ⟨2, 7, false,
   [.ifs (.cmp .gt (.idx (.nam 0) (.cst (.str [108, 101, 102, 116]))) (.cst (.int 0)))
     [.set 6 (.bin false .mod (.idx (.nam 0) (.cst (.str [108, 101, 102, 116]))) (.nam 1)),
      .sti (.nam 0) (.cst (.str [108, 101, 102, 116])) (.bin false .fdiv (.idx (.nam 0) (.cst (.str [108, 101, 102, 116]))) (.nam 1)),
      .ret (.nam 6)]
     [],
    .set 2 (.idx (.nam 0) (.cst (.str [115, 99, 114, 105, 112, 116]))),
    .set 3 (.idx (.nam 0) (.cst (.str [97, 116]))),
    .sti (.nam 0) (.cst (.str [97, 116])) (.bin false .add (.nam 3) (.cst (.int 1))),
    .set 4 (.bin false .add (.bin false .mul (.cst (.int 40009)) (.nam 3)) (.cst (.int 17))),
    .ifs (.cmp .ne (.nam 2) (.lst false .nil))
     [.set 4 (.idx (.nam 2) (.bin false .mod (.nam 3) (.blt false .len (.cons (.nam 2) .nil))))]
     [],
    .ifs (.land (.cmp .lt (.nam 3) (.blt false .len (.cons (.nam 2) .nil))) (.cmp .ge (.blt false .abs (.cons (.nam 4) .nil)) (.bin false .pow (.cst (.int 10)) (.cst (.int 18)))))
     [.sti (.nam 0) (.cst (.str [108, 101, 102, 116])) (.bin false .fdiv (.blt false .abs (.cons (.nam 4) .nil)) (.nam 1)),
      .ret (.bin true .mod (.blt false .abs (.cons (.nam 4) .nil)) (.nam 1))]
     [],
    .set 5 (.bin false .mod (.bin false .mul (.bin false .add (.bin false .add (.bin false .mod (.nam 4) (.cst (.int 2147483629))) (.bin false .mul (.cst (.int 104729)) (.nam 3))) (.cst (.int 3))) (.cst (.int 48271))) (.cst (.int 2147483647))),
    .set 5 (.bin false .mod (.bin false .add (.bin false .add (.bin false .mul (.nam 5) (.nam 5)) (.bin false .mul (.cst (.int 69621)) (.nam 5))) (.nam 3)) (.cst (.int 2147483587))),
    .ret (.bin true .mod (.bin false .fdiv (.nam 5) (.cst (.int 8))) (.nam 1))]⟩

def K3 : List D := [.str [115, 99, 114, 105, 112, 116], .str [97, 116], .str [108, 101, 102, 116]]
/-- a dict pen in a cell -/
def DPen (ns : List Int) (h : Hea) (a : Nat) : Prop := ∃ i l : Int, get h a = some (.dic K3 [.scr ns, .int i, .int l])
theorem put_at {ns : List Int} {i l x : Int} : Cell.dic (dPutK (.str [97, 116]) K3) (dPutV (.str [97, 116]) (.int x) K3 [.scr ns, .int i, .int l]) = .dic K3 [.scr ns, .int x, .int l] := by
  simp [dPutK, dPutV, dRep, K3, keyEq]
theorem put_left {ns : List Int} {i l x : Int} : Cell.dic (dPutK (.str [108, 101, 102, 116]) K3) (dPutV (.str [108, 101, 102, 116]) (.int x) K3 [.scr ns, .int i, .int l]) = .dic K3 [.scr ns, .int i, .int x] := by
  simp [dPutK, dPutV, dRep, K3, keyEq]
theorem get_script {ns : List Int} {i l : Int} : dGet (.str [115, 99, 114, 105, 112, 116]) K3 [.scr ns, .int i, .int l] = some (.scr ns) := by simp [dGet, K3, keyEq]
theorem get_at {ns : List Int} {i l : Int} : dGet (.str [97, 116]) K3 [.scr ns, .int i, .int l] = some (.int i) := by simp [dGet, K3, keyEq]
theorem get_left {ns : List Int} {i l : Int} : dGet (.str [108, 101, 102, 116]) K3 [.scr ns, .int i, .int l] = some (.int l) := by simp [dGet, K3, keyEq]
theorem K3_len : K3.length < SL := by unfold K3 SL; decide
theorem script_ne {ns : List Int} {h : Hea} : cop .ne h (.scr ns) (.lst []) = some (.bl (!ns.isEmpty)) := by
  have e : eqH h (.scr ns) (.lst []) = some (eqv (.scr ns) (.lst [])) := by
    unfold eqH
    rw [show rsv h (.scr ns) = some (.scr ns) from frzN_below below_scr, show rsv h (.lst []) = some (.lst []) from frzN_below (by simp)]
    have l1 : lay (.scr ns) = true := by
      unfold lay toPy
      simp only [PyData.canLay0]
      induction ns with
      | nil => simp [PyData.canLayAll0]
      | cons n ns ih => simp [PyData.canLayAll0, PyData.canLay0, ih]
    have l2 : lay (.lst []) = true := by simp [lay, toPy, toPys, PyData.canLay0, PyData.canLayAll0]
    have : eqOk (.scr ns) (.lst []) = true := by
      unfold eqOk
      rw [l1, l2, show dep (.lst []) = 1 by simp [dep, toPy, toPys, PyData.depth, PyData.depthAll]]
      simp
    simp only [this, if_true]
  show (eqH h (.scr ns) (.lst [])).map (fun c => D.bl !c) = _
  rw [e]
  cases ns with
  | nil => simp [eqv, toPy, toPys, PyData.eqv, PyData.eqvAll]
  | cons n ns => simp [eqv, toPy, toPys, PyData.eqv, PyData.eqvAll]
theorem draw_ok {C : CT} {ns : List Int} {a : Nat} {many : Int} {h : Hea} {E : Xc → Hea → Prop} (p : DPen ns h a) (h0 : 0 < many) (h1 : many < 1073741824) :
    WP (exF C drawF [.ref a, .int many] h) (fun d h' => ∃ i : Int, d = .int i ∧ (0 ≤ i ∧ i < many ∧ (∃ c, h' = put h a c) ∧ DPen ns h' a)) E := by
  obtain ⟨at_, l, g⟩ := p
  have la : a < h.length := get_lt g
  have iL : ixH h (.ref a) (.str [108, 101, 102, 116]) = some (.int l) := ix_dicr g rfl get_left
  have iA : ixH h (.ref a) (.str [97, 116]) = some (.int at_) := ix_dicr g rfl get_at
  have iS : ixH h (.ref a) (.str [115, 99, 114, 105, 112, 116]) = some (.scr ns) := ix_dicr g rfl get_script
  refine WP_exF rfl ?_
  simp only [drawF]
  rw [B_cons]
  trivial
  rw [iL]
  trivial
  refine IteD (fun hi => ?_) (fun hi => ?_)
  · rw [B_cons]
    trivial
    rw [iL]
    trivial
    refine ⟨by omega, ?_⟩
    rw [B_cons]
    trivial
    rw [iL]
    trivial
    refine ⟨⟨by omega, by omega, by omega⟩, ?_⟩
    rw [sti_dic g rfl below_int K3_len, put_left]
    trivial
    rw [B_cons]
    trivial
    rw [trunc_put]
    exact ⟨_, rfl, Int.fmod_nonneg_of_pos _ h0, Int.fmod_lt_of_pos _ h0, ⟨_, rfl⟩, at_, _, get_put_same la⟩
  · trivial
    rw [B_cons]
    trivial
    rw [iS]
    trivial
    rw [B_cons]
    trivial
    rw [iA]
    trivial
    rw [B_cons]
    trivial
    rw [sti_dic g rfl below_int K3_len, put_at]
    trivial
    have g2 : get (put h a (.dic K3 [.scr ns, .int (at_ + 1), .int l])) a = some (.dic K3 [.scr ns, .int (at_ + 1), .int l]) := get_put_same la
    generalize hh2 : put h a (.dic K3 [.scr ns, .int (at_ + 1), .int l]) = h2 at g2
    have hl2 : h2.length = h.length := by rw [← hh2, put_len]
    have pp : ∀ c, put h2 a c = put h a c := fun c => by rw [← hh2, put_put]
    rw [B_cons]
    trivial
    refine ⟨by rw [small_of (i := 40009) (by omega) (by omega)]; rfl, ?_⟩
    refine B_seq (fun ρ h' => (∃ c : Int, ρ = [some (.ref a), some (.int many), some (.scr ns), some (.int at_), some (.int c), none, none]) ∧ h' = h2) ?_ ?_
    · trivial
      rw [script_ne]
      trivial
      refine Ite.mk (fun hb => ?_) (fun hb => ?_)
      · have hn : 0 < ns.length := by cases ns <;> simp_all
        rw [B_cons]
        trivial
        refine ⟨by omega, ?_⟩
        have m1 := Int.fmod_nonneg_of_pos at_ (b := (ns.length : Int)) (by omega)
        have m2 := Int.fmod_lt_of_pos at_ (b := (ns.length : Int)) (by omega)
        rw [ix_scr (plc_int m1 m2), List.getElem?_eq_getElem (by omega)]
        trivial
        exact ⟨_, rfl⟩
      · trivial
        exact ⟨_, rfl⟩
    rintro ρ h3 ⟨⟨c, rfl⟩, rfl⟩
    have rest : WP (exB C [.set 5 (.bin false .mod (.bin false .mul (.bin false .add (.bin false .add (.bin false .mod (.nam 4) (.cst (.int 2147483629))) (.bin false .mul (.cst (.int 104729)) (.nam 3))) (.cst (.int 3))) (.cst (.int 48271))) (.cst (.int 2147483647))),
        .set 5 (.bin false .mod (.bin false .add (.bin false .add (.bin false .mul (.nam 5) (.nam 5)) (.bin false .mul (.cst (.int 69621)) (.nam 5))) (.nam 3)) (.cst (.int 2147483587))),
        .ret (.bin true .mod (.bin false .fdiv (.nam 5) (.cst (.int 8))) (.nam 1))] [some (.ref a), some (.int many), some (.scr ns), some (.int at_), some (.int c), none, none] h3)
        (Ret h.length (fun d h' => ∃ i : Int, d = .int i ∧ (0 ≤ i ∧ i < many ∧ (∃ c, h' = put h a c) ∧ DPen ns h' a)) E) (fun _ _ => False) := by
      have mod_small : ∀ (u k : Int), 0 < k → k < 2 ^ 62 → small (u.fmod k) = true := fun u k k0 k1 => small_of (by have := Int.fmod_nonneg_of_pos u k0; omega) (by have := Int.fmod_lt_of_pos u k0; omega)
      rw [B_cons]
      trivial
      refine ⟨by rw [small_of (i := 104729) (by omega) (by omega)]; rfl, by rw [small_of (i := 48271) (by omega) (by omega), Bool.or_true], ?_⟩
      rw [B_cons]
      trivial
      refine ⟨by rw [mod_small _ _ (by omega) (by omega)]; rfl, by rw [small_of (i := 69621) (by omega) (by omega)]; rfl, ?_⟩
      rw [B_cons]
      trivial
      refine ⟨by omega, ?_⟩
      rw [← hl2, trunc_self]
      exact ⟨_, rfl, Int.fmod_nonneg_of_pos _ h0, Int.fmod_lt_of_pos _ h0, ⟨_, hh2.symm⟩, _, _, g2⟩
    rw [B_cons]
    trivial
    refine IteD (fun hi1 => ?_) (fun hi1 => ?_)
    · trivial
      refine Ite.mk (fun hb => ?_) (fun hb => ?_)
      · rw [B_cons]
        trivial
        refine ⟨⟨by omega, by omega, by omega⟩, ?_⟩
        rw [sti_dic g2 rfl below_int K3_len, put_left]
        trivial
        rw [B_cons]
        trivial
        refine ⟨by omega, ?_⟩
        rw [pp, trunc_put]
        exact ⟨_, rfl, Int.fmod_nonneg_of_pos _ h0, Int.fmod_lt_of_pos _ h0, ⟨_, rfl⟩, _, _, get_put_same la⟩
      · trivial
        exact rest
    · trivial
      exact rest
/-- a draw as it is called -/
def DrawOk (C : CT) (g : Nat) (ns : List Int) : Prop := ∀ (a : Nat) (many : Int) (h : Hea), DPen ns h a → 0 < many → many < 1073741824 →
  WP (C g [.ref a, .int many] h) (fun d h' => ∃ i : Int, d = .int i ∧ (0 ≤ i ∧ i < many ∧ (∃ c, h' = put h a c) ∧ DPen ns h' a)) NX
theorem DrawOk.mk {Fs : List Fn} {k g : Nat} {ns : List Int} (e : Fs[g]? = some drawF) : DrawOk (run Fs (k + 1)) g ns := fun a many h p h0 h1 => by
  rw [run_at e]
  exact draw_ok p h0 h1
theorem DrawOk.call {C : CT} {g : Nat} {ns : List Int} (P : DrawOk C g ns) {a n : Nat} {many : Int} {h : Hea} {Q : D → Hea → Prop} {E : Xc → Hea → Prop} (p : DPen ns h a) (h0 : 0 < many) (h1 : many < 1073741824)
    (k : ∀ (i : Int) (h' : Hea), 0 ≤ i → i < many → (∃ c, h' = put h a c) → DPen ns h' a → Q (.int i) h') : WP (melt n (C g [.ref a, .int many] h)) Q E :=
  W_meltI ((P a many h p h0 h1).nx fun d h' q => q) fun i h' ⟨h1, h2, h3, h4⟩ => k i h' h1 h2 h3 h4
theorem penD_ok {C : CT} {ns : List Int} {h : Hea} {E : Xc → Hea → Prop} : WP (exF C penDF [.scr ns] h) (fun d h' => d = .ref h.length ∧ h' = .dic K3 [.scr ns, .int 0, .int 0] :: h) E := by
  refine WP_exF rfl ?_
  simp only [penDF]
  rw [B_cons]
  trivial
  rw [show disp [D.str [115, 99, 114, 105, 112, 116], .scr ns, .str [97, 116], .int 0, .str [108, 101, 102, 116], .int 0] = some (.dic K3 [.scr ns, .int 0, .int 0]) by simp [disp, evens, odds, nodupK, isKey, keyEq, K3]]
  trivial
  rw [leave_newD (Nat.le_refl _) get_top (by simp [K3]) (by simp), trunc_cons (Nat.le_refl _), trunc_self]
  trivial
def grownF (gd gs : Nat) : Fn := ⟨5, 10, false,
   [.ifs (.cmp .eq (.nam 2) (.cst (.int 1)))
     [.ret (.tup (.cons (.cst (.str [105, 115])) (.cons (.cal false gd (.cons (.nam 0) (.cons (.nam 1) .nil))) (.cons (.idx (.nam 4) (.cal false gd (.cons (.nam 0) (.cons (.blt false .len (.cons (.nam 4) .nil)) .nil)))) .nil))))]
     [],
    .set 5 (.blt false .max (.cons (.cst (.int 1)) (.cons (.bin false .sub (.nam 2) (.bin false .shl (.cst (.int 1)) (.bin false .sub (.nam 3) (.cst (.int 1))))) .nil))),
    .set 6 (.blt false .min (.cons (.bin false .sub (.nam 2) (.cst (.int 1))) (.cons (.bin false .shl (.cst (.int 1)) (.bin false .sub (.nam 3) (.cst (.int 1)))) .nil))),
    .set 7 (.idx (.lst false (.cons (.nam 5) (.cons (.nam 6) (.cons (.bin false .add (.nam 5) (.cal false gd (.cons (.nam 0) (.cons (.bin false .add (.bin false .sub (.nam 6) (.nam 5)) (.cst (.int 1))) .nil)))) .nil)))) (.cal false gd (.cons (.nam 0) (.cons (.cst (.int 3)) .nil)))),
    .set 8 (.idx (.lst false (.cons (.cst (.str [97, 110, 100])) (.cons (.cst (.str [111, 114])) .nil))) (.cal false gd (.cons (.nam 0) (.cons (.cst (.int 2)) .nil)))),
    .set 9 (.cal false gs (.cons (.nam 0) (.cons (.nam 1) (.cons (.nam 7) (.cons (.bin false .sub (.nam 3) (.cst (.int 1))) (.cons (.nam 4) .nil)))))),
    .ret (.tup (.cons (.nam 8) (.cons (.nam 9) (.cons (.cal false gs (.cons (.nam 0) (.cons (.nam 1) (.cons (.bin false .sub (.nam 2) (.nam 7)) (.cons (.bin false .sub (.nam 3) (.cst (.int 1))) (.cons (.nam 4) .nil)))))) .nil))))]⟩

def sIs : D := .str [105, 115]
def sAnd : D := .str [97, 110, 100]
def sOr : D := .str [111, 114]
/-- a saying for p places, its leaves' bits among bs, at most k joins deep -/
inductive Say (p : Int) (bs : List Int) : Nat → D → Prop where
  | leaf (k : Nat) (i b : Int) : 0 ≤ i → i < p → b ∈ bs → Say p bs k (.tup [sIs, .int i, .int b])
  | join (k : Nat) (J x y : D) : J = sAnd ∨ J = sOr → Say p bs k x → Say p bs k y → Say p bs (k + 1) (.tup [J, x, y])
theorem dep_cons3 {x y z : D} {n : Nat} (h1 : dep x ≤ n) (h2 : dep y ≤ n) (h3 : dep z ≤ n) : dep (.tup [x, y, z]) ≤ n + 1 := by
  rw [dep_tup]
  unfold dep at h1 h2 h3
  simp only [toPys, PyData.depthAll]
  omega
theorem nb_cons3 {x y z : D} (h1 : nb x = true) (h2 : nb y = true) (h3 : nb z = true) : nb (.tup [x, y, z]) = true := by
  simp [nb, nbs, h1, h2, h3]
theorem nb_sIs : nb sIs = true := by decide +kernel
theorem nb_J {J : D} (h : J = sAnd ∨ J = sOr) : nb J = true := by rcases h with rfl | rfl <;> decide +kernel
theorem dep_str {x : List Nat} : dep (.str x) = 0 := by simp [dep, toPy, PyData.depth]
theorem dep_J {J : D} (h : J = sAnd ∨ J = sOr) : dep J = 0 := by rcases h with rfl | rfl <;> exact dep_str
theorem Say.nb {p : Int} {bs : List Int} {k : Nat} {d : D} (h : Say p bs k d) : nb d = true := by
  induction h with
  | leaf k i b _ _ _ => exact nb_cons3 nb_sIs nb_int nb_int
  | join k J x y hJ _ _ i1 i2 => exact nb_cons3 (nb_J hJ) i1 i2
theorem Say.dep {p : Int} {bs : List Int} {k : Nat} {d : D} (h : Say p bs k d) : dep d ≤ k + 1 := by
  induction h with
  | leaf k i b _ _ _ => exact dep_cons3 (by unfold sIs; rw [dep_str]; omega) (by rw [dep_int]; omega) (by rw [dep_int]; omega)
  | join k J x y hJ _ _ i1 i2 => exact dep_cons3 (by rw [dep_J hJ]; omega) i1 i2
theorem Say.tup {p : Int} {bs : List Int} {k : Nat} {d : D} (h : Say p bs k d) : ∃ J x y, d = .tup [J, x, y] := by
  cases h with
  | leaf k i b _ _ _ => exact ⟨_, _, _, rfl⟩
  | join k J x y _ _ _ => exact ⟨_, _, _, rfl⟩
theorem puts2 {h h' h'' : Hea} {a : Nat} (e : ∃ c, h' = put h a c) (e' : ∃ c, h'' = put h' a c) : ∃ c, h'' = put h a c := by
  obtain ⟨c, rfl⟩ := e
  obtain ⟨c', rfl⟩ := e'
  exact ⟨c', put_put⟩
theorem puts2_len {h h' : Hea} {a : Nat} (e : ∃ c, h' = put h a c) : h'.length = h.length := by obtain ⟨c, rfl⟩ := e; exact put_len
theorem trunc_eq {h h' : Hea} (e : h'.length = h.length) : trunc h.length h' = h' := by rw [← e]; exact trunc_self
theorem idx3 {h : Hea} {x y z : D} {i : Int} (h0 : 0 ≤ i) (h1 : i < 3) : ∃ v, ixH h (.lst [x, y, z]) (.int i) = some v ∧ (v = x ∨ v = y ∨ v = z) := by
  have : i = 0 ∨ i = 1 ∨ i = 2 := by omega
  rcases this with rfl | rfl | rfl
  · exact ⟨x, rfl, .inl rfl⟩
  · exact ⟨y, rfl, .inr (.inl rfl)⟩
  · exact ⟨z, rfl, .inr (.inr rfl)⟩
theorem idx2 {h : Hea} {x y : D} {i : Int} (h0 : 0 ≤ i) (h1 : i < 2) : ∃ v, ixH h (.lst [x, y]) (.int i) = some v ∧ (v = x ∨ v = y) := by
  have : i = 0 ∨ i = 1 := by omega
  rcases this with rfl | rfl
  · exact ⟨x, rfl, .inl rfl⟩
  · exact ⟨y, rfl, .inr rfl⟩
theorem pow2_cast {k : Nat} : (1 : Int) * 2 ^ k = ((2 ^ k : Nat) : Int) := by rw [Int.one_mul]; norm_cast
theorem grown_ok {C : CT} {gd gs : Nat} {ns : List Int} {a : Nat} {p many : Int} {r : Nat} {bs : List Int} {h : Hea} {E : Xc → Hea → Prop} (P : DrawOk C gd ns)
    (R : ∀ (r' : Nat) (many : Int) (h : Hea), r = r' + 1 → 1 ≤ many → many ≤ ((2 ^ r' : Nat) : Int) → DPen ns h a → WP (C gs [.ref a, .int p, .int many, .int r', .lst (bs.map .int)] h) (fun d h' => Say p bs r' d ∧ ((∃ c, h' = put h a c) ∧ DPen ns h' a)) NX)
    (hp : 0 < p) (hp2 : p < 1000) (hb : bs ≠ []) (hb2 : bs.length < 1000) (hr : r ≤ 20) (h1 : 1 ≤ many) (h2 : many ≤ ((2 ^ r : Nat) : Int)) (pen : DPen ns h a) :
    WP (exF C (grownF gd gs) [.ref a, .int p, .int many, .int r, .lst (bs.map .int)] h) (fun d h' => Say p bs r d ∧ ((∃ c, h' = put h a c) ∧ DPen ns h' a)) E := by
  have hbl : 0 < bs.length := by cases bs <;> simp_all
  refine WP_exF rfl ?_
  simp only [grownF]
  rw [B_cons]
  trivial
  refine IteD (fun hm => ?_) (fun hm => ?_)
  · rw [B_cons]
    trivial
    refine P.call pen hp (by omega) fun i h3 hi0 hi1 e1 p1 => ?_
    trivial
    rw [List.length_map]
    refine P.call p1 (by omega) (by omega) fun j h4 hj0 hj1 e2 p2 => ?_
    trivial
    have lj : j.toNat < bs.length := by omega
    rw [ix_lst (k := j.toNat) (plc_int hj0 (by rw [List.length_map]; omega)), List.getElem?_map, List.getElem?_eq_getElem lj]
    trivial
    refine ⟨SL_3, ?_⟩
    rw [leave_tup (by simp)]
    trivial
    have e3 := puts2 e1 e2
    rw [trunc_eq (puts2_len e3)]
    exact ⟨.leaf r i _ hi0 hi1 (List.getElem_mem lj), e3, p2⟩
  · trivial
    obtain ⟨r', rfl⟩ : ∃ r', r = r' + 1 := by
      cases r with
      | zero => simp at h2; omega
      | succ r' => exact ⟨r', rfl⟩
    have ep : ((2 ^ (r' + 1) : Nat) : Int) = 2 * ((2 ^ r' : Nat) : Int) := by rw [Nat.pow_succ]; push_cast; omega
    have hpow : ((2 ^ r' : Nat) : Int) ≤ 1048576 := by
      have : 2 ^ r' ≤ 2 ^ 20 := Nat.pow_le_pow_right (by omega) (by omega)
      omega
    have hpos : 0 < ((2 ^ r' : Nat) : Int) := by
      have : 0 < 2 ^ r' := Nat.two_pow_pos r'
      omega
    have et : (((r' + 1 : Nat) : Int) - 1).toNat = r' := by omega
    have er : ((r' + 1 : Nat) : Int) - 1 = (r' : Int) := by omega
    rw [ep] at h2
    generalize hN : ((2 ^ r' : Nat) : Int) = N at h2 hpow hpos
    rw [B_cons]
    trivial
    refine ⟨⟨by omega, by omega⟩, ?_⟩
    rw [et, pow2_cast, hN, B_cons]
    trivial
    refine ⟨⟨by omega, by omega⟩, ?_⟩
    rw [et, pow2_cast, hN]
    generalize hlo : (if many - N > 1 then many - N else 1) = lo
    generalize hhi : (if N < many - 1 then N else many - 1) = hi
    have l1 : 1 ≤ lo := by rw [← hlo]; split <;> omega
    have l2 : many - N ≤ lo := by rw [← hlo]; split <;> omega
    have l3 : lo ≤ hi := by rw [← hlo, ← hhi]; split <;> split <;> omega
    have l4 : hi ≤ N := by rw [← hhi]; split <;> omega
    have l5 : hi ≤ many - 1 := by rw [← hhi]; split <;> omega
    have l6 : lo ≤ many - 1 := by omega
    rw [B_cons]
    trivial
    refine P.call pen (by omega) (by omega) fun i h3 hi0 hi1 e1 p1 => ?_
    trivial
    refine ⟨SL_3, ?_⟩
    refine P.call p1 (by omega) (by omega) fun j h4 hj0 hj1 e2 p2 => ?_
    trivial
    obtain ⟨v, ev, hv⟩ := idx3 (h := h4) (x := .int lo) (y := .int hi) (z := .int (lo + i)) hj0 hj1
    obtain ⟨f, rfl, hf1, hf2⟩ : ∃ f : Int, v = .int f ∧ lo ≤ f ∧ f ≤ hi := by
      rcases hv with rfl | rfl | rfl
      · exact ⟨_, rfl, by omega, by omega⟩
      · exact ⟨_, rfl, by omega, by omega⟩
      · exact ⟨_, rfl, by omega, by omega⟩
    rw [ev]
    trivial
    have e3 := puts2 e1 e2
    rw [B_cons]
    trivial
    refine ⟨by unfold SL; omega, ?_⟩
    refine P.call p2 (by omega) (by omega) fun j2 h5 hj20 hj21 e4 p3 => ?_
    trivial
    obtain ⟨J, eJ, hJ⟩ := idx2 (h := h5) (x := sAnd) (y := sOr) hj20 hj21
    unfold sAnd sOr at eJ
    rw [eJ]
    trivial
    have e5 := puts2 e3 e4
    rw [B_cons]
    trivial
    rw [er]
    refine W_meltV (((R r' f h5 rfl (by omega) (by rw [hN]; omega) p3)).nx fun d h' q => ⟨?_, ?_⟩)
    · obtain ⟨J, x, y, rfl⟩ := q.1.tup
      exact fun a z => nomatch z
    obtain ⟨q1, e6, p4⟩ := q
    have e7 := puts2 e5 e6
    trivial
    rw [B_cons]
    trivial
    rw [er]
    refine W_meltV (((R r' (many - f) h' rfl (by omega) (by rw [hN]; omega) p4)).nx fun d2 h6 q => ⟨?_, ?_⟩)
    · obtain ⟨J, x, y, rfl⟩ := q.1.tup
      exact fun a z => nomatch z
    obtain ⟨q2, e8, p5⟩ := q
    have e9 := puts2 e7 e8
    trivial
    refine ⟨SL_3, ?_⟩
    rw [leave_tup (by simp [below_nb q1.nb, below_nb q2.nb, below_nb (nb_J hJ)])]
    trivial
    rw [trunc_eq (puts2_len e9)]
    exact ⟨.join r' J d d2 hJ q1 q2, e9, p5⟩
end MP

/-! Sayings: what the program's own defs tell of them. -/
namespace MP
open PySem
theorem leave_nb {n : Nat} {d : D} {h : Hea} (hd : nb d = true) : leave n d h = .ok d (trunc n h) := by
  cases d with
  | ref a => unfold nb at hd; cases hd
  | bl _ => exact leave_bl
  | int _ => exact leave_int
  | str _ => exact leave_str
  | non => exact leave_non
  | tup ds => exact leave_tup (by have := below_nb (a := n) hd; rw [below_tup_eq] at this; exact this)
  | lst ds => exact leave_lst (by have := below_nb (a := n) hd; rw [below_lst_eq] at this; exact this)
  | dic _ _ => unfold nb at hd; cases hd
  | scr _ => unfold nb at hd; cases hd
theorem nb_ref {d : D} (hd : nb d = true) : ∀ a, d ≠ .ref a := fun a e => by rw [e] at hd; unfold nb at hd; cases hd
theorem nbs_all : ∀ {ds : List D}, (∀ d ∈ ds, nb d = true) → nbs ds = true
  | [], _ => by unfold nbs; rfl
  | d :: ds, h => by unfold nbs; rw [h d List.mem_cons_self, nbs_all fun x hx => h x (List.mem_cons_of_mem _ hx)]; rfl
theorem nb_tupA {ds : List D} (h : ∀ d ∈ ds, nb d = true) : nb (.tup ds) = true := by unfold nb; exact nbs_all h
theorem nb_lstA {ds : List D} (h : ∀ d ∈ ds, nb d = true) : nb (.lst ds) = true := by unfold nb; exact nbs_all h
theorem deps_all {n : Nat} : ∀ {ds : List D}, (∀ d ∈ ds, dep d ≤ n) → PyData.depthAll (toPys ds) ≤ n
  | [], _ => by simp [toPys, PyData.depthAll]
  | d :: ds, h => by
    have h1 := h d List.mem_cons_self
    have h2 := deps_all fun x hx => h x (List.mem_cons_of_mem _ hx)
    unfold dep at h1
    simp only [toPys, PyData.depthAll]
    omega
theorem dep_tupA {n : Nat} {ds : List D} (h : ∀ d ∈ ds, dep d ≤ n) : dep (.tup ds) ≤ n + 1 := by
  rw [dep_tup]; have := deps_all h; omega
theorem dep_lstA {n : Nat} {ds : List D} (h : ∀ d ∈ ds, dep d ≤ n) : dep (.lst ds) ≤ n + 1 := by
  rw [dep_lst]; have := deps_all h; omega
theorem nb_cons2 {x y : D} (h1 : nb x = true) (h2 : nb y = true) : nb (.tup [x, y]) = true := by simp [nb, nbs, h1, h2]
theorem dep_cons2 {x y : D} {n : Nat} (h1 : dep x ≤ n) (h2 : dep y ≤ n) : dep (.tup [x, y]) ≤ n + 1 := dep_tupA fun d hd => by
  simp only [List.mem_cons, List.not_mem_nil, or_false] at hd
  rcases hd with rfl | rfl <;> assumption
theorem eq_refl {h : Hea} {x y z : D} (h1 : rsv h x = some z) (h2 : rsv h y = some z) (n : nb z = true) (k : dep z ≤ 64) : cop .eq h x y = some (.bl true) := by
  rw [cop_eq_of h1 h2 n n (.inl k), eqv_self n]
theorem ne_refl {h : Hea} {x y z : D} (h1 : rsv h x = some z) (h2 : rsv h y = some z) (n : nb z = true) (k : dep z ≤ 64) : cop .ne h x y = some (.bl false) := by
  rw [cop_ne_of h1 h2 n n (.inl k), eqv_self n]; rfl
theorem ne_nb {h : Hea} {x y : D} (nx : nb x = true) (ny : nb y = true) (k : dep x ≤ 64) (n : x ≠ y) : cop .ne h x y = some (.bl true) := by
  rw [cop_ne_of (rsv_nb nx) (rsv_nb ny) nx ny (.inl k)]
  have := eqv_nb nx ny
  have e : eqv x y = false := by
    rw [Bool.eq_false_iff]
    exact fun z => n (this.mp z)
  rw [e]; rfl
theorem eq_nb {h : Hea} {x y : D} (nx : nb x = true) (ny : nb y = true) (k : dep x ≤ 64) (n : x ≠ y) : cop .eq h x y = some (.bl false) := by
  rw [cop_eq_of (rsv_nb nx) (rsv_nb ny) nx ny (.inl k)]
  have := eqv_nb nx ny
  have e : eqv x y = false := by
    rw [Bool.eq_false_iff]
    exact fun z => n (this.mp z)
  rw [e]
theorem ne_nil {h : Hea} {w : Nat} {ds : List D} (g : MP.get h w = some (.lst ds)) (h1 : nbs ds = true) (h2 : PyData.depthAll (toPys ds) ≤ 30) : cop .ne h (.ref w) (.lst []) = some (.bl (!ds.isEmpty)) := by
  have n1 : nb (.lst ds) = true := by unfold nb; exact h1
  have n2 : nb (.lst []) = true := by unfold nb nbs; rfl
  rw [cop_ne_of (rsv_ref g h1 (by omega)) (rsv_nb n2) n1 n2 (.inl (by rw [dep_lst]; omega))]
  have := eqv_nb n1 n2
  cases ds with
  | nil => rw [this.mpr rfl]; rfl
  | cons d ds =>
    have : eqv (.lst (d :: ds)) (.lst []) = false := by
      rw [Bool.eq_false_iff]
      intro z
      have := this.mp z
      simp at this
    rw [this]; rfl
theorem DrawOk.callU {C : CT} {g : Nat} {ns : List Int} (P : DrawOk C g ns) {a n : Nat} {many : Int} {c0 : Cell} {h : Hea} {Q : D → Hea → Prop} {E : Xc → Hea → Prop} (p : DPen ns h a) (h0 : 0 < many) (h1 : many < 1073741824)
    (k : ∀ (i : Int) (h' : Hea), 0 ≤ i → i < many → (∃ c, h' = put h a c) → DPen ns h' a → Q (.int i) (c0 :: h')) : WP (melt n (C g [.ref a, .int many] (c0 :: h))) Q E := by
  obtain ⟨x, y, gp⟩ := p
  have la := get_lt gp
  refine P.call (h := c0 :: h) ⟨x, y, by rw [get_und la]; exact gp⟩ h0 h1 fun i h' i0 i1 ⟨c, e⟩ ⟨x', y', g'⟩ => ?_
  rw [put_und la] at e
  subst e
  rw [get_und (by rw [put_len]; exact la)] at g'
  exact k i _ i0 i1 ⟨c, rfl⟩ ⟨x', y', g'⟩
theorem DPen.up {ns : List Int} {h : Hea} {a : Nat} {c : Cell} (p : DPen ns h a) : DPen ns (c :: h) a := by
  obtain ⟨x, y, g⟩ := p
  exact ⟨x, y, by rw [get_und (get_lt g)]; exact g⟩
theorem DPen.lt {ns : List Int} {h : Hea} {a : Nat} (p : DPen ns h a) : a < h.length := by
  obtain ⟨x, y, g⟩ := p
  exact get_lt g
theorem DPen.down {ns : List Int} {h : Hea} {a : Nat} {c : Cell} (l : a < h.length) (p : DPen ns (c :: h) a) : DPen ns h a := by
  obtain ⟨x, y, g⟩ := p
  exact ⟨x, y, by rwa [get_und l] at g⟩
theorem s_ii {h : Hea} : cop .eq h (.str [105, 115]) (.str [105, 115]) = some (.bl true) := eq_refl (z := sIs) (rsv_nb nb_sIs) (rsv_nb nb_sIs) nb_sIs (by unfold sIs; rw [dep_str]; omega)
theorem s_ai {h : Hea} : cop .eq h (.str [97, 110, 100]) (.str [105, 115]) = some (.bl false) := eq_nb (nb_J (.inl rfl)) nb_sIs (by rw [dep_str]; omega) (by simp)
theorem s_oi {h : Hea} : cop .eq h (.str [111, 114]) (.str [105, 115]) = some (.bl false) := eq_nb (nb_J (.inr rfl)) nb_sIs (by rw [dep_str]; omega) (by simp)
theorem s_aa {h : Hea} : cop .eq h (.str [97, 110, 100]) (.str [97, 110, 100]) = some (.bl true) := eq_refl (z := sAnd) (rsv_nb (nb_J (.inl rfl))) (rsv_nb (nb_J (.inl rfl))) (nb_J (.inl rfl)) (by unfold sAnd; rw [dep_str]; omega)
theorem s_oa {h : Hea} : cop .eq h (.str [111, 114]) (.str [97, 110, 100]) = some (.bl false) := eq_nb (nb_J (.inr rfl)) (nb_J (.inl rfl)) (by rw [dep_str]; omega) (by simp)
local macro_rules | `(tactic| trivial) => `(tactic| try simp -implicitDefEqProofs only [WP_ok, WP_nox, Nam_some, Opt_some, Opt_if, Ite_tt, Ite_ff, IntV_int, TupV_tup, setAll, BlV_bl, ↓Nxt_nx, ↓Nxt_rt, ↓Nxt_bk, ↓Nxt_ct, ↓Nxt_xc, ↓Bod_nx, ↓Bod_ct, ↓Bod_bk, ↓Bod_rt, ↓Bod_xc, ↓Ret_rt, ↓Ret_nx, ↓Ret_xc,
  ↓W_cst, ↓W_nam, ↓W_bin, ↓W_neg, ↓W_cmp, ↓W_land, ↓W_lor, ↓W_lnot, ↓W_ite, ↓W_nil, ↓W_cons, ↓W_tup, ↓W_lst, ↓W_dic, ↓W_idx, ↓W_ono, ↓W_oso, ↓W_slc, ↓W_cal, ↓W_blt, ↓W_mth, ↓W_val, ↓W_rng, ↓W_rng2, ↓W_zip, ↓W_enu, ↓W_glb, ↓W_lc, ↓W_lcc, ↓W_chn,
  ↓T_cmp, ↓T_chn, ↓T_land, ↓T_lor, ↓T_lnot, ↓T_ite, ↓T_cst, ↓T_nam, ↓T_idx, ↓T_cal, ↓T_blt, ↓T_bin, tru_bl, tru_int, B_nil, S_exp, S_set, S_sti, S_ifs, S_whl, S_for, S_ret, S_rtn, S_brk, S_cnt, S_unp,
  bop_add, bop_sub, bop_mul, bop_fdiv, bop_mod, bop_pow, bop_shl, bop_shr, bop_and, bop_or, bop_xor, bop_tup, bop_str, bop_smul, bop_rep, bop_cat, cop_eq_int, cop_ne_int, cop_lt_int, cop_le_int, cop_gt_int, cop_ge_int, cop_isB, cop_notB, mk_int', mk_bl', mk_non', mk_str', mk_tup', mk_ff, mk_tt, mk_ttD,
  bl_len_scr, bl_len_lst, bl_len_tup, bl_len_str, bl_abs, bl_max, bl_min, bl_int, bl_intb, bl_str, bl_tuple_lst, bl_tuple_tup, bl_list_lst, bl_list_tup, bl_all, bl_any, bl_sum, bl_isi, isi_int, isi_bl, isi_str, isi_tup, isi_lst, isi_non, isi_dic, omap_some, isTy, List.any_cons, List.any_nil, Bool.or_false, Bool.or_true, Bool.true_or, Bool.false_or,
  leave_int, leave_bl, leave_non, leave_str, walkV_lst, walkV_tup, wipeE, if_true, decide_true, decide_false, Int.cast_ofNat_Int, Int.natCast_zero, Int.natCast_one, Bool.false_eq_true, if_false, Bool.not_true, Bool.not_false, Nat.zero_le, true_and, and_true, ne_eq, not_false_eq_true,
  start, List.map_cons, List.map_nil, List.length_cons, List.length_nil, List.replicate, List.cons_append, List.nil_append, List.set_cons_zero, List.set_cons_succ, List.getElem?_cons_zero, List.getElem?_cons_succ, Nat.reduceSub, Nat.reduceAdd, Int.reduceEq, Int.reduceLE, Int.reduceLT, Int.reducePow, Int.reduceToNat, Nat.reduceLT, Nat.reduceLeDiff, Int.reduceNeg, Nat.reducePow, bindT_one, s_ii, s_ai, s_oi, s_aa, s_oa])

/-! ### sayings -/
inductive Sg where
  | is (i b : Int)
  | jn (o : Bool) (x y : Sg)
namespace Sg
def d : Sg → D
  | is i b => .tup [.str [105, 115], .int i, .int b]
  | jn o x y => .tup [.str (if o = true then [97, 110, 100] else [111, 114]), x.d, y.d]
def ok (p : Int) (bs : List Int) : Nat → Sg → Prop
  | _, is i b => 0 ≤ i ∧ i < p ∧ b ∈ bs
  | 0, jn _ _ _ => False
  | k + 1, jn _ x y => x.ok p bs k ∧ y.ok p bs k
def v (xs : List Int) : Sg → Bool
  | is i b => decide (xs[i.toNat]?.getD 0 = b)
  | jn o x y => if o = true then x.v xs && y.v xs else x.v xs || y.v xs
def dp : Sg → Nat
  | is _ _ => 0
  | jn _ x y => 1 + max x.dp y.dp
def lv : Sg → Nat
  | is _ _ => 1
  | jn _ x y => x.lv + y.lv
end Sg
theorem Say.sg {p : Int} {bs : List Int} {k : Nat} {d : D} (h : Say p bs k d) : ∃ s : Sg, d = s.d ∧ s.ok p bs k := by
  induction h with
  | leaf k i b h1 h2 h3 => exact ⟨.is i b, rfl, by unfold Sg.ok; exact ⟨h1, h2, h3⟩⟩
  | join k J x y hJ _ _ i1 i2 =>
    obtain ⟨s, rfl, hs⟩ := i1
    obtain ⟨t, rfl, ht⟩ := i2
    rcases hJ with rfl | rfl
    · exact ⟨.jn true s t, rfl, hs, ht⟩
    · exact ⟨.jn false s t, rfl, hs, ht⟩
theorem Sg.ok.say {p : Int} {bs : List Int} : ∀ {s : Sg} {k : Nat}, s.ok p bs k → Say p bs k s.d
  | .is i b, k, h => by unfold Sg.ok at h; exact .leaf k i b h.1 h.2.1 h.2.2
  | .jn o x y, 0, h => by unfold Sg.ok at h; exact h.elim
  | .jn o x y, k + 1, h => by
    unfold Sg.ok at h
    cases o
    · exact .join k sOr _ _ (.inr rfl) h.1.say h.2.say
    · exact .join k sAnd _ _ (.inl rfl) h.1.say h.2.say
theorem Sg.ok.mono {p q : Int} {bs : List Int} (hq : p ≤ q) : ∀ {s : Sg} {k j : Nat}, s.ok p bs k → k ≤ j → s.ok q bs j
  | .is i b, k, j, h, _ => by unfold Sg.ok at h ⊢; exact ⟨h.1, by omega, h.2.2⟩
  | .jn o x y, 0, j, h, _ => by unfold Sg.ok at h; exact h.elim
  | .jn o x y, k + 1, 0, h, l => by omega
  | .jn o x y, k + 1, j + 1, h, l => by
    unfold Sg.ok at h ⊢
    exact ⟨h.1.mono hq (by omega), h.2.mono hq (by omega)⟩
theorem Sg.ok.sub {p : Int} {bs cs : List Int} (hc : ∀ b ∈ bs, b ∈ cs) : ∀ {s : Sg} {k : Nat}, s.ok p bs k → s.ok p cs k
  | .is i b, k, h => by unfold Sg.ok at h ⊢; exact ⟨h.1, h.2.1, hc _ h.2.2⟩
  | .jn o x y, 0, h => by unfold Sg.ok at h; exact h.elim
  | .jn o x y, k + 1, h => by
    unfold Sg.ok at h ⊢
    exact ⟨h.1.sub hc, h.2.sub hc⟩
theorem Sg.nb : ∀ {s : Sg}, nb s.d = true
  | .is _ _ => nb_cons3 nb_sIs nb_int nb_int
  | .jn o x y => nb_cons3 (by cases o <;> decide +kernel) x.nb y.nb
theorem Sg.ok.dep {p : Int} {bs : List Int} {k : Nat} {s : Sg} (h : s.ok p bs k) : dep s.d ≤ k + 1 := h.say.dep
theorem Sg.ok.lv {p : Int} {bs : List Int} : ∀ {s : Sg} {k : Nat}, s.ok p bs k → s.lv ≤ 2 ^ k
  | .is i b, k, h => by unfold Sg.lv; exact Nat.two_pow_pos k
  | .jn o x y, 0, h => by unfold Sg.ok at h; exact h.elim
  | .jn o x y, k + 1, h => by
    unfold Sg.ok at h
    have h1 := h.1.lv
    have h2 := h.2.lv
    unfold Sg.lv
    rw [Nat.pow_succ]; omega
theorem Sg.ok.dp {p : Int} {bs : List Int} : ∀ {s : Sg} {k : Nat}, s.ok p bs k → s.dp ≤ k
  | .is i b, k, h => by unfold Sg.dp; omega
  | .jn o x y, 0, h => by unfold Sg.ok at h; exact h.elim
  | .jn o x y, k + 1, h => by
    unfold Sg.ok at h
    have h1 := h.1.dp
    have h2 := h.2.dp
    unfold Sg.dp; omega
theorem Sg.lv_pos : ∀ {s : Sg}, 1 ≤ s.lv
  | .is _ _ => Nat.le_refl _
  | .jn _ x y => by have := x.lv_pos; unfold Sg.lv; omega
theorem Sg.d_inj : ∀ {s t : Sg}, s.d = t.d → s = t
  | .is i b, .is j c, h => by simp [Sg.d] at h; rw [h.1, h.2]
  | .is i b, .jn o x y, h => by cases o <;> simp [Sg.d] at h
  | .jn o x y, .is i b, h => by cases o <;> simp [Sg.d] at h
  | .jn o x y, .jn o' x' y', h => by
    simp only [Sg.d, D.tup.injEq, List.cons.injEq, D.str.injEq] at h
    rw [Sg.d_inj h.2.1, Sg.d_inj h.2.2.1]
    cases o <;> cases o' <;> simp at h ⊢
def b2i (b : Bool) : Int := if b = true then 1 else 0
theorem b2i_eq {b : Bool} : (if b = true then (1 : Int) else 0) = b2i b := rfl
theorem and_b2i {a b : Bool} : Builtin.bitAnd (b2i a) (b2i b) = b2i (a && b) := by cases a <;> cases b <;> decide
theorem or_b2i {a b : Bool} : Builtin.bitOr (b2i a) (b2i b) = b2i (a || b) := by cases a <;> cases b <;> decide
theorem and_nat (a b : Nat) : Builtin.bitAnd (a : Int) (b : Int) = ((a &&& b : Nat) : Int) := by
  unfold Builtin.bitAnd
  simp
theorem or_nat (a b : Nat) : Builtin.bitOr (a : Int) (b : Int) = ((a ||| b : Nat) : Int) := by
  have e : ∀ n : Nat, decide (0 ≤ Builtin.bitNot (n : Int)) = false := fun n => by
    rw [decide_eq_false_iff_not]; unfold Builtin.bitNot; omega
  have e2 : ∀ n : Nat, Builtin.bitNot (Builtin.bitNot (n : Int)) = n := fun n => by unfold Builtin.bitNot; omega
  unfold Builtin.bitOr Builtin.bitAnd
  rw [e, e]
  simp only [e2, Int.toNat_natCast]
theorem sh_bit (m k : Nat) : Builtin.bitAnd ((m : Int) / 2 ^ k) 1 = b2i (m.testBit k) := by
  rw [PyProof.Rows.bitAnd_m1]
  have e : ((m : Int) / 2 ^ k % 2) = ((m / 2 ^ k % 2 : Nat) : Int) := by push_cast; rfl
  rw [e, Nat.testBit_eq_decide_div_mod_eq]
  have : m / 2 ^ k % 2 = 0 ∨ m / 2 ^ k % 2 = 1 := by omega
  rcases this with q | q <;> rw [q] <;> rfl
theorem ix_dI {h : Hea} {xs : List Int} {i : Int} (h0 : 0 ≤ i) (h1 : i < xs.length) : ixH h (dI xs) (.int i) = some (.int (xs[i.toNat]?.getD 0)) := by
  unfold dI
  have l : i.toNat < xs.length := by omega
  rw [ix_tup (k := i.toNat) (plc_int h0 (by rw [List.length_map]; omega)), List.getElem?_map, List.getElem?_eq_getElem l]
  rfl
theorem bits_at {p n : Nat} {i : Int} (h0 : 0 ≤ i) (h1 : i < p) : (bits p n)[i.toNat]?.getD 0 = ((n / 2 ^ (p - 1 - i.toNat) % 2 : Nat) : Int) := by
  unfold bits
  rw [List.getElem?_map, List.getElem?_range (by omega)]
  rfl
def valueF (g : Nat) : Fn := ⟨2, 5, false,
   [.unp [2, 3, 4] (.nam 0),
    .ifs (.cmp .eq (.nam 2) (.cst (.str [105, 115])))
     [.ret (.blt true .int (.cons (.cmp .eq (.idx (.nam 1) (.nam 3)) (.nam 4)) .nil))]
     [],
    .ifs (.cmp .eq (.nam 2) (.cst (.str [97, 110, 100])))
     [.ret (.bin true .band (.cal false g (.cons (.nam 3) (.cons (.nam 1) .nil))) (.cal false g (.cons (.nam 4) (.cons (.nam 1) .nil))))]
     [],
    .ret (.bin true .bor (.cal false g (.cons (.nam 3) (.cons (.nam 1) .nil))) (.cal false g (.cons (.nam 4) (.cons (.nam 1) .nil))))]⟩
def deepF (g : Nat) : Fn := ⟨1, 4, false,
   [.unp [1, 2, 3] (.nam 0),
    .ifs (.cmp .eq (.nam 1) (.cst (.str [105, 115])))
     [.ret (.cst (.int 0))]
     [],
    .ret (.bin true .add (.cst (.int 1)) (.blt false .max (.cons (.cal false g (.cons (.nam 2) .nil)) (.cons (.cal false g (.cons (.nam 3) .nil)) .nil))))]⟩
def leavesF (g : Nat) : Fn := ⟨1, 4, false,
   [.unp [1, 2, 3] (.nam 0),
    .ifs (.cmp .eq (.nam 1) (.cst (.str [105, 115])))
     [.ret (.cst (.int 1))]
     [],
    .ret (.bin true .add (.cal false g (.cons (.nam 2) .nil)) (.cal false g (.cons (.nam 3) .nil)))]⟩
def maskF (g : Nat) : Fn := ⟨2, 7, false,
   [.unp [2, 3, 4] (.nam 1),
    .ifs (.cmp .eq (.nam 2) (.cst (.str [105, 115])))
     [.set 5 (.cst (.int 0)),
      .for_ (.one 6) (.rng (.bin false .shl (.cst (.int 1)) (.nam 0)))
       [.set 5 (.bin false .bor (.nam 5) (.bin false .shl (.blt false .int (.cons (.cmp .eq (.bin false .band (.bin false .shr (.nam 6) (.bin false .sub (.bin false .sub (.nam 0) (.cst (.int 1))) (.nam 3))) (.cst (.int 1))) (.nam 4)) .nil)) (.nam 6)))],
      .ret (.nam 5)]
     [],
    .ifs (.cmp .eq (.nam 2) (.cst (.str [97, 110, 100])))
     [.ret (.bin true .band (.cal false g (.cons (.nam 0) (.cons (.nam 3) .nil))) (.cal false g (.cons (.nam 0) (.cons (.nam 4) .nil))))]
     [],
    .ret (.bin true .bor (.cal false g (.cons (.nam 0) (.cons (.nam 3) .nil))) (.cal false g (.cons (.nam 0) (.cons (.nam 4) .nil))))]⟩
def sizeF : Fn := ⟨1, 6, false,
   [.set 1 (.lst true (.cons (.tup (.cons (.nam 0) (.cons (.cst (.int 0)) .nil))) .nil)),
    .set 2 (.cst (.int 0)),
    .set 3 (.cst (.int 0)),
    .whl (.cmp .ne (.nam 1) (.lst false .nil))
     [.unp [4, 5] (.mth false .pop (.nam 1) .nil),
      .ifs (.cmp .eq (.idx (.nam 4) (.cst (.int 0))) (.cst (.str [105, 115])))
       [.set 3 (.bin false .add (.nam 3) (.cst (.int 1))),
        .set 2 (.blt false .max (.cons (.nam 2) (.cons (.nam 5) .nil)))]
       [.exp (.mth false .extend (.nam 1) (.cons (.lst false (.cons (.tup (.cons (.idx (.nam 4) (.cst (.int 1))) (.cons (.bin false .add (.nam 5) (.cst (.int 1))) .nil))) (.cons (.tup (.cons (.idx (.nam 4) (.cst (.int 2))) (.cons (.bin false .add (.nam 5) (.cst (.int 1))) .nil))) .nil))) .nil))]],
    .ret (.tup (.cons (.nam 2) (.cons (.nam 3) .nil)))]⟩
def sayingF (gd gs : Nat) : Fn := ⟨3, 4, false,
   [.set 3 (.idx (.lst false (.cons (.bin false .add (.cst (.int 1)) (.cal false gd (.cons (.nam 0) (.cons (.cst (.int 4)) .nil)))) (.cons (.bin false .add (.cst (.int 1)) (.cal false gd (.cons (.nam 0) (.cons (.cst (.int 14)) .nil)))) (.cons (.bin false .add (.cst (.int 1)) (.cal false gd (.cons (.nam 0) (.cons (.cst (.int 60)) .nil)))) .nil)))) (.cal false gd (.cons (.nam 0) (.cons (.cst (.int 3)) .nil)))),
    .ret (.cal true gs (.cons (.nam 0) (.cons (.nam 1) (.cons (.nam 3) (.cons (.idx (.lst false (.cons (.cst (.int 12)) (.cons (.cst (.int 6)) (.cons (.cst (.int 7)) .nil)))) (.cal false gd (.cons (.nam 0) (.cons (.cst (.int 3)) .nil)))) (.cons (.nam 2) .nil))))))]⟩
def wholeF : Fn := ⟨1, 1, false,
   [.ret (.land (.blt false (.isi [.int]) (.cons (.nam 0) .nil)) (.lnot (.blt false (.isi [.bool]) (.cons (.nam 0) .nil))))]⟩

section
variable {Fs : List Fn} {g : Nat}
theorem value_run (e : Fs[g]? = some (valueF g)) {p : Int} {bs xs : List Int} (hx : p ≤ xs.length) : ∀ {s : Sg} {k : Nat}, s.ok p bs k → ∀ (m : Nat) (h : Hea), WP (run Fs (k + 1 + m) g [s.d, dI xs] h) (fun d h' => ∃ i, d = .int i ∧ (i = b2i (s.v xs) ∧ h' = h)) NX := by
  intro s
  induction s with
  | is i b =>
    intro k hk m h
    unfold Sg.ok at hk
    rw [show k + 1 + m = (k + m) + 1 by omega, run_at e]
    refine WP_exF rfl ?_
    simp only [valueF]
    rw [B_cons]
    simp only [Sg.d]
    trivial
    rw [B_cons]
    trivial
    rw [B_cons]
    trivial
    rw [ix_dI hk.1 (by omega)]
    trivial
    exact ⟨_, rfl, by unfold Sg.v; rfl, trunc_self⟩
  | jn o x y ix iy =>
    intro k hk m h
    cases k with
    | zero => unfold Sg.ok at hk; exact hk.elim
    | succ k =>
      unfold Sg.ok at hk
      rw [show k + 1 + 1 + m = (k + 1 + m) + 1 by omega, run_at e]
      refine WP_exF rfl ?_
      simp only [valueF]
      rw [B_cons]
      simp only [Sg.d]
      have vx := ix hk.1 m
      have vy := iy hk.2 m
      cases o <;> trivial
      · rw [B_cons]
        trivial
        rw [B_cons]
        trivial
        rw [B_cons]
        trivial
        refine W_meltI (vx h) ?_
        rintro i h1 ⟨rfl, rfl⟩
        refine W_meltI (vy h1) ?_
        rintro j h2 ⟨rfl, rfl⟩
        trivial
        exact ⟨_, rfl, by rw [or_b2i]; rfl, trunc_self⟩
      · rw [B_cons]
        trivial
        rw [B_cons]
        trivial
        rw [B_cons]
        trivial
        refine W_meltI (vx h) ?_
        rintro i h1 ⟨rfl, rfl⟩
        refine W_meltI (vy h1) ?_
        rintro j h2 ⟨rfl, rfl⟩
        trivial
        exact ⟨_, rfl, by rw [and_b2i]; rfl, trunc_self⟩
theorem deep_run (e : Fs[g]? = some (deepF g)) {p : Int} {bs : List Int} : ∀ {s : Sg} {k : Nat}, s.ok p bs k → ∀ (m : Nat) (h : Hea), WP (run Fs (k + 1 + m) g [s.d] h) (fun d h' => ∃ i, d = .int i ∧ (i = (s.dp : Int) ∧ h' = h)) NX := by
  intro s
  induction s with
  | is i b =>
    intro k hk m h
    rw [show k + 1 + m = (k + m) + 1 by omega, run_at e]
    refine WP_exF rfl ?_
    simp only [deepF]
    rw [B_cons]
    simp only [Sg.d]
    trivial
    rw [B_cons]
    trivial
    rw [B_cons]
    trivial
    exact ⟨_, rfl, rfl, trunc_self⟩
  | jn o x y ix iy =>
    intro k hk m h
    cases k with
    | zero => unfold Sg.ok at hk; exact hk.elim
    | succ k =>
      unfold Sg.ok at hk
      rw [show k + 1 + 1 + m = (k + 1 + m) + 1 by omega, run_at e]
      refine WP_exF rfl ?_
      simp only [deepF]
      rw [B_cons]
      simp only [Sg.d]
      have vx := ix hk.1 m
      have vy := iy hk.2 m
      cases o <;> trivial
      all_goals
        rw [B_cons]
        trivial
        rw [B_cons]
        trivial
        refine W_meltI (vx h) ?_
        rintro i h1 ⟨rfl, rfl⟩
        trivial
        refine W_meltI (vy h1) ?_
        rintro j h2 ⟨rfl, rfl⟩
        trivial
        exact ⟨_, rfl, by simp only [Sg.dp]; split <;> omega, trunc_self⟩
theorem leaves_run (e : Fs[g]? = some (leavesF g)) {p : Int} {bs : List Int} : ∀ {s : Sg} {k : Nat}, s.ok p bs k → ∀ (m : Nat) (h : Hea), WP (run Fs (k + 1 + m) g [s.d] h) (fun d h' => ∃ i, d = .int i ∧ (i = (s.lv : Int) ∧ h' = h)) NX := by
  intro s
  induction s with
  | is i b =>
    intro k hk m h
    rw [show k + 1 + m = (k + m) + 1 by omega, run_at e]
    refine WP_exF rfl ?_
    simp only [leavesF]
    rw [B_cons]
    simp only [Sg.d]
    trivial
    rw [B_cons]
    trivial
    rw [B_cons]
    trivial
    exact ⟨_, rfl, rfl, trunc_self⟩
  | jn o x y ix iy =>
    intro k hk m h
    cases k with
    | zero => unfold Sg.ok at hk; exact hk.elim
    | succ k =>
      unfold Sg.ok at hk
      rw [show k + 1 + 1 + m = (k + 1 + m) + 1 by omega, run_at e]
      refine WP_exF rfl ?_
      simp only [leavesF]
      rw [B_cons]
      simp only [Sg.d]
      have vx := ix hk.1 m
      have vy := iy hk.2 m
      cases o <;> trivial
      all_goals
        rw [B_cons]
        trivial
        rw [B_cons]
        trivial
        refine W_meltI (vx h) ?_
        rintro i h1 ⟨rfl, rfl⟩
        trivial
        refine W_meltI (vy h1) ?_
        rintro j h2 ⟨rfl, rfl⟩
        trivial
        exact ⟨_, rfl, by simp only [Sg.lv]; omega, trunc_self⟩
theorem b2i_or {f k j : Nat} {c : Bool} : ((f ||| (if c = true then 1 else 0) * 2 ^ k).testBit j) = (f.testBit j || (c && decide (j = k))) := by
  rw [Nat.testBit_or]
  cases c
  · simp
  · simp [Nat.testBit_two_pow, eq_comm]
theorem mask_run (e : Fs[g]? = some (maskF g)) {p : Nat} (hp : p ≤ 10) {bs : List Int} : ∀ {s : Sg} {k : Nat}, s.ok p bs k → ∀ (m : Nat) (h : Hea), WP (run Fs (k + 1 + m) g [.int p, s.d] h) (fun d h' => ∃ i, d = .int i ∧ ((∃ M : Nat, i = M ∧ ∀ j, M.testBit j = (decide (j < 2 ^ p) && s.v (bits p j))) ∧ h' = h)) NX := by
  intro s
  induction s with
  | is i b =>
    intro k hk m h
    unfold Sg.ok at hk
    have hz : 2 ^ p ≤ 2 ^ 10 := Nat.pow_le_pow_right (by omega) hp
    rw [show k + 1 + m = (k + m) + 1 by omega, run_at e]
    refine WP_exF rfl ?_
    simp only [maskF]
    rw [B_cons]
    simp only [Sg.d]
    trivial
    rw [B_cons]
    trivial
    rw [B_cons]
    trivial
    refine B_seq (fun ρ h' => ∃ (M : Nat) (x : Option D), ρ = [some (.int p), some (.tup [.str [105, 115], .int i, .int b]), some (.str [105, 115]), some (.int i), some (.int b), some (.int M), x] ∧ h' = h ∧ ∀ j, M.testBit j = (decide (j < 2 ^ p) && (Sg.is i b).v (bits p j))) ?_ ?_
    · trivial
      rw [Int.toNat_natCast, pow2_cast]
      refine ⟨by omega, ⟨R62_0, R62_nat (by omega)⟩, ?_⟩
      refine frL_rng (fun n ρ h' => ∃ (M : Nat) (x : Option D), ρ = [some (.int p), some (.tup [.str [105, 115], .int i, .int b]), some (.str [105, 115]), some (.int i), some (.int b), some (.int M), x] ∧ h' = h ∧ ∀ j, M.testBit j = (decide (j < n) && (Sg.is i b).v (bits p j))) ⟨0, _, rfl, rfl, fun j => by simp⟩ ?_ ?_
      · rintro n hn ρ h' ⟨M, x, rfl, rfl, hM⟩
        rw [B_cons, Int.zero_add]
        trivial
        refine ⟨by omega, ?_⟩
        refine ⟨⟨by omega, by omega, by split <;> omega, by split <;> omega⟩, ?_⟩
        have eb : Builtin.bitAnd ((n : Int) / 2 ^ ((p : Int) - 1 - i).toNat) 1 = (bits p n)[i.toNat]?.getD 0 := by
          rw [PyProof.Rows.bitAnd_m1, bits_at hk.1 hk.2.1, show ((p : Int) - 1 - i).toNat = p - 1 - i.toNat by omega]
          norm_cast
        rw [eb, show (if decide ((bits p n)[i.toNat]?.getD 0 = b) = true then (1 : Int) else 0) * 2 ^ (n : Int).toNat = (((if decide ((bits p n)[i.toNat]?.getD 0 = b) = true then 1 else 0) * 2 ^ n : Nat) : Int) by
          rw [Int.toNat_natCast]; split <;> norm_cast, or_nat]
        refine ⟨_, _, rfl, fun j => ?_⟩
        rw [b2i_or, hM j]
        unfold Sg.v
        by_cases hj : j = n
        · subst hj; simp
        · rw [decide_eq_false hj, Bool.and_false, Bool.or_false]
          congr 1
          rw [decide_eq_decide]; omega
      · rintro ρ h' ⟨M, x, rfl, rfl, hM⟩
        refine ⟨M, _, rfl, rfl, fun j => ?_⟩
        rw [hM j, Int.sub_zero, Int.toNat_natCast]
    · rintro ρ h' ⟨M, x, rfl, rfl, hM⟩
      rw [B_cons]
      trivial
      exact ⟨_, rfl, ⟨M, rfl, hM⟩, trunc_self⟩
  | jn o x y ix iy =>
    intro k hk m h
    cases k with
    | zero => unfold Sg.ok at hk; exact hk.elim
    | succ k =>
      unfold Sg.ok at hk
      rw [show k + 1 + 1 + m = (k + 1 + m) + 1 by omega, run_at e]
      refine WP_exF rfl ?_
      simp only [maskF]
      rw [B_cons]
      simp only [Sg.d]
      have vx := ix hk.1 m
      have vy := iy hk.2 m
      cases o <;> trivial
      · rw [B_cons]
        trivial
        rw [B_cons]
        trivial
        rw [B_cons]
        trivial
        refine W_meltI (vx h) ?_
        rintro i h1 ⟨⟨A, rfl, hA⟩, rfl⟩
        trivial
        refine W_meltI (vy h1) ?_
        rintro j h2 ⟨⟨B, rfl, hB⟩, rfl⟩
        trivial
        refine ⟨_, rfl, ⟨A ||| B, or_nat A B, fun j => ?_⟩, trunc_self⟩
        rw [Nat.testBit_or, hA, hB]
        simp only [Sg.v, Bool.false_eq_true, if_false]
        cases decide (j < 2 ^ p) <;> simp
      · rw [B_cons]
        trivial
        rw [B_cons]
        trivial
        rw [B_cons]
        trivial
        refine W_meltI (vx h) ?_
        rintro i h1 ⟨⟨A, rfl, hA⟩, rfl⟩
        trivial
        refine W_meltI (vy h1) ?_
        rintro j h2 ⟨⟨B, rfl, hB⟩, rfl⟩
        trivial
        refine ⟨_, rfl, ⟨A &&& B, and_nat A B, fun j => ?_⟩, trunc_self⟩
        rw [Nat.testBit_and, hA, hB]
        simp only [Sg.v, if_true]
        cases decide (j < 2 ^ p) <;> simp
/-! ### drawn sayings -/
theorem grown_run {gd gs : Nat} (ed : Fs[gd]? = some drawF) (eg : Fs[gs]? = some (grownF gd gs)) {ns : List Int} {a : Nat} {p : Int} {bs : List Int} (hp : 0 < p) (hp2 : p < 1000) (hb : bs ≠ []) (hb2 : bs.length < 1000) : ∀ (r : Nat), r ≤ 20 → ∀ (k : Nat) (many : Int) (h : Hea), 1 ≤ many → many ≤ ((2 ^ r : Nat) : Int) → DPen ns h a →
    WP (run Fs (r + 2 + k) gs [.ref a, .int p, .int many, .int r, .lst (bs.map .int)] h) (fun d h' => Say p bs r d ∧ ((∃ c, h' = put h a c) ∧ DPen ns h' a)) NX
  | 0, hr, k, many, h, h1, h2, pen => by
    rw [show 0 + 2 + k = (k + 1) + 1 by omega, run_at eg]
    exact grown_ok (DrawOk.mk ed) (fun r' _ _ e => by omega) hp hp2 hb hb2 hr h1 h2 pen
  | r + 1, hr, k, many, h, h1, h2, pen => by
    rw [show r + 1 + 2 + k = (r + 2 + k) + 1 by omega, run_at eg]
    refine grown_ok (by rw [show r + 2 + k = (r + 1 + k) + 1 by omega]; exact DrawOk.mk ed) (fun r' many' h' e q1 q2 pen' => ?_) hp hp2 hb hb2 hr h1 h2 pen
    have : r = r' := by omega
    subst this
    exact grown_run ed eg hp hp2 hb hb2 r (by omega) k many' h' q1 q2 pen'
theorem saying_run {gd gs : Nat} (ed : Fs[gd]? = some drawF) (eg : Fs[gs]? = some (grownF gd gs)) (e : Fs[g]? = some (sayingF gd gs)) {ns : List Int} {a : Nat} {p : Int} {bs : List Int} (hp : 0 < p) (hp2 : p < 1000) (hb : bs ≠ []) (hb2 : bs.length < 1000) (k : Nat) (h : Hea) (pen : DPen ns h a) :
    WP (run Fs (k + 15) g [.ref a, .int p, .lst (bs.map .int)] h) (fun d h' => ∃ s : Sg, d = s.d ∧ (s.ok p bs 12 ∧ ((∃ c, h' = put h a c) ∧ DPen ns h' a))) NX := by
  have P : DrawOk (run Fs (k + 14)) gd ns := by rw [show k + 14 = (k + 13) + 1 from rfl]; exact DrawOk.mk ed
  rw [show k + 15 = (k + 14) + 1 from rfl, run_at e]
  refine WP_exF rfl ?_
  simp only [sayingF]
  rw [B_cons]
  trivial
  refine P.call pen (by omega) (by omega) fun x h2 x0 x1 e2 pen2 => ?_
  trivial
  refine P.call pen2 (by omega) (by omega) fun y h3 y0 y1 e3 pen3 => ?_
  trivial
  refine P.call pen3 (by omega) (by omega) fun z h4 z0 z1 e4 pen4 => ?_
  trivial
  refine ⟨SL_3, ?_⟩
  refine P.call pen4 (by omega) (by omega) fun w h5 w0 w1 e5 pen5 => ?_
  trivial
  obtain ⟨v, ev, hv⟩ := idx3 (h := h5) (x := .int (1 + x)) (y := .int (1 + y)) (z := .int (1 + z)) w0 w1
  obtain ⟨n, rfl, hn1, hn2⟩ : ∃ n : Int, v = .int n ∧ 1 ≤ n ∧ n ≤ 60 := by
    rcases hv with rfl | rfl | rfl
    · exact ⟨_, rfl, by omega, by omega⟩
    · exact ⟨_, rfl, by omega, by omega⟩
    · exact ⟨_, rfl, by omega, by omega⟩
  rw [ev]
  trivial
  rw [B_cons]
  trivial
  refine ⟨SL_3, ?_⟩
  refine P.call pen5 (by omega) (by omega) fun w h6 w0 w1 e6 pen6 => ?_
  trivial
  obtain ⟨v, ev, hv⟩ := idx3 (h := h6) (x := .int 12) (y := .int 6) (z := .int 7) w0 w1
  obtain ⟨r, rfl, hr1, hr2⟩ : ∃ r : Nat, v = .int (r : Int) ∧ 6 ≤ r ∧ r ≤ 12 := by
    rcases hv with rfl | rfl | rfl
    · exact ⟨12, rfl, by omega, by omega⟩
    · exact ⟨6, rfl, by omega, by omega⟩
    · exact ⟨7, rfl, by omega, by omega⟩
  rw [ev]
  trivial
  have hN : 2 ^ 6 ≤ 2 ^ r := Nat.pow_le_pow_right (by omega) hr1
  have gr := grown_run ed eg (ns := ns) (a := a) (p := p) hp hp2 hb hb2 r (by omega) (12 - r + k) n h6 hn1 (by omega) pen6
  rw [show r + 2 + (12 - r + k) = k + 14 by omega] at gr
  refine gr.nx ?_
  rintro d h7 ⟨q, e7, pen7⟩
  obtain ⟨s, rfl, hs⟩ := q.sg
  trivial
  rw [leave_nb s.nb]
  trivial
  have el := puts2_len (puts2 (puts2 (puts2 (puts2 (puts2 e2 e3) e4) e5) e6) e7)
  rw [trunc_eq el]
  exact ⟨s, rfl, hs.mono (Int.le_refl _) hr2, puts2 (puts2 (puts2 (puts2 (puts2 e2 e3) e4) e5) e6) e7, pen7⟩
theorem whole_run (e : Fs[g]? = some wholeF) (k : Nat) {i : Int} {h : Hea} : WP (run Fs (k + 1) g [.int i] h) (fun d h' => ∃ b, d = .bl b ∧ (b = true ∧ h' = h)) NX := by
  rw [run_at e]
  refine WP_exF rfl ?_
  simp only [wholeF]
  rw [B_cons]
  trivial
  exact ⟨_, rfl, rfl, trunc_self⟩
theorem word_run (e : Fs[g]? = some wordByF) (k : Nat) {p n : Nat} {h : Hea} (hp : p ≤ 100) : WP (run Fs (k + 1) g [.int p, .int n] h) (fun d h' => d = dI (bits p n) ∧ h' = h) NX := by
  rw [run_at e]; exact word_by_ok hp
/-! ### counted leaf by leaf -/
def prS (q : Sg × Nat) : D := .tup [q.1.d, .int q.2]
def stS (ss : List (Sg × Nat)) : List D := (ss.map prS).reverse
def lvS (ss : List (Sg × Nat)) : Nat := (ss.map fun q => q.1.lv).sum
def dpS (ss : List (Sg × Nat)) : Nat := ss.foldr (fun q m => max (q.2 + q.1.dp) m) 0
theorem size_run (e : Fs[g]? = some sizeF) {p : Int} {bs : List Int} {s : Sg} {k : Nat} (hk : s.ok p bs k) (hk2 : k ≤ 16) (m : Nat) {h : Hea} : WP (run Fs (m + 1) g [s.d] h) (fun d h' => d = .tup [.int s.dp, .int s.lv] ∧ h' = h) NX := by
  have hlv : s.lv ≤ 65536 := by
    have h1 := hk.lv
    have h2 : 2 ^ k ≤ 2 ^ 16 := Nat.pow_le_pow_right (by omega) hk2
    omega
  rw [run_at e]
  refine WP_exF rfl ?_
  simp only [sizeF]
  rw [B_cons]
  trivial
  refine ⟨by unfold SL; omega, by unfold SL; omega, ?_⟩
  rw [B_cons]
  trivial
  rw [B_cons]
  trivial
  refine B_seq (fun ρ h' => (∃ x y, ρ = [some s.d, some (.ref h.length), some (.int s.dp), some (.int s.lv), x, y]) ∧ ∃ c, h' = c :: h) ?_ ?_
  · trivial
    refine whL_ind (fun w ρ h' => ∃ (ss : List (Sg × Nat)) (M N : Nat) (x y : Option D), ρ = [some s.d, some (.ref h.length), some (.int M), some (.int N), x, y] ∧ h' = .lst (stS ss) :: h ∧ (∀ q ∈ ss, q.1.ok p bs k) ∧ max M (dpS ss) = s.dp ∧ N + lvS ss = s.lv ∧ 2 * lvS ss - ss.length ≤ w ∧ ss.length ≤ lvS ss) ?_ WF (2 * s.lv - 1) _ _ (by unfold WF; omega) ⟨[(s, 0)], 0, 0, _, _, rfl, rfl, ?_, by simp [dpS], by simp [lvS], by simp [lvS], by simp [lvS]; exact s.lv_pos⟩
    · rintro w ρ h' ⟨ss, M, N, x, y, rfl, rfl, hg, hM, hN, hw, hl⟩
      have g1 : MP.get (Cell.lst (stS ss) :: h) h.length = some (.lst (stS ss)) := get_top
      have hall : ∀ d ∈ stS ss, nb d = true ∧ dep d ≤ 20 := fun d hd => by
        unfold stS at hd
        rw [List.mem_reverse, List.mem_map] at hd
        obtain ⟨q, hq, rfl⟩ := hd
        have := (hg q hq).dep
        unfold prS
        exact ⟨nb_cons2 q.1.nb nb_int, by have := dep_cons2 (x := q.1.d) (y := .int q.2) (n := 17) (by omega) (by rw [dep_int]; omega); omega⟩
      trivial
      rw [ne_nil g1 (nbs_all fun d hd => (hall d hd).1) (by have := deps_all (n := 20) fun d hd => (hall d hd).2; omega)]
      trivial
      cases ss with
      | nil =>
        simp only [stS, List.map_nil, List.reverse_nil, List.isEmpty_nil, Bool.not_true, Bool.false_eq_true, if_false]
        trivial
        simp only [dpS, lvS, List.foldr_nil, List.map_nil, List.sum_nil] at hM hN
        rw [show M = s.dp by omega, show N = s.lv by omega]
        exact ⟨⟨_, _, rfl⟩, _, rfl⟩
      | cons q ss =>
        obtain ⟨t, f⟩ := q
        have ht : t.ok p bs k := hg _ List.mem_cons_self
        have hst : stS ((t, f) :: ss) = stS ss ++ [prS (t, f)] := by unfold stS; rw [List.map_cons, List.reverse_cons]
        have hne : (!(stS ((t, f) :: ss)).isEmpty) = true := by rw [hst]; simp
        rw [hne]
        simp only [if_true]
        rw [hst] at g1 ⊢
        simp only [dpS, lvS, List.foldr_cons, List.map_cons, List.sum_cons, List.length_cons] at hM hN hw hl
        have hss : ss.length ≤ lvS ss := by
          clear hst hne g1 hall hM hN hw hl
          induction ss with
          | nil => simp [lvS]
          | cons q ss ih =>
            have := q.1.lv_pos
            have := ih fun x hx => hg x (by rcases List.mem_cons.mp hx with rfl | hx; exact List.mem_cons_self; exact List.mem_cons_of_mem _ (List.mem_cons_of_mem _ hx))
            simp only [lvS, List.map_cons, List.sum_cons, List.length_cons] at this ⊢
            omega
        rw [B_cons]
        trivial
        refine ⟨rcv_of g1 (fun z => nomatch z), ?_⟩
        rw [pop_ok (x := prS (t, f)) g1 (by simp), put_top, List.dropLast_concat]
        unfold prS
        trivial
        have g2 : MP.get (Cell.lst (stS ss) :: h) h.length = some (.lst (stS ss)) := get_top
        rw [B_cons]
        cases t with
        | is i b =>
          simp only [Sg.d]
          trivial
          rw [show ∀ h' : Hea, ixH h' (.tup [.str [105, 115], .int i, .int b]) (.int 0) = some (.str [105, 115]) from fun _ => rfl]
          trivial
          rw [B_cons]
          trivial
          rw [B_cons]
          trivial
          simp only [Sg.dp, Sg.lv] at hM hN hw hl
          rw [show (if (f : Int) > M then (f : Int) else M) = ((max M f : Nat) : Int) by split <;> omega]
          refine ⟨w - 1, by omega, ss, max M f, N + 1, _, _, rfl, rfl, fun q hq => hg q (List.mem_cons_of_mem _ hq), ?_, ?_, ?_, hss⟩
          · show max (max M f) (dpS ss) = s.dp
            unfold dpS
            omega
          · show N + 1 + lvS ss = s.lv
            unfold lvS
            omega
          · show 2 * lvS ss - ss.length ≤ w - 1
            unfold lvS at hss ⊢
            omega
        | jn o x y =>
          cases k with
          | zero => unfold Sg.ok at ht; exact ht.elim
          | succ k =>
            unfold Sg.ok at ht
            have hx := ht.1.mono (Int.le_refl p) (show k ≤ k + 1 by omega)
            have hy := ht.2.mono (Int.le_refl p) (show k ≤ k + 1 by omega)
            simp only [Sg.dp, Sg.lv] at hM hN hw hl
            have lx := x.lv_pos
            have ly := y.lv_pos
            have fin : ∃ m' < w, ∃ (ss' : List (Sg × Nat)) (M' N' : Nat), M' = M ∧ N' = N ∧ stS ss' = stS ss ++ [prS (x, f + 1), prS (y, f + 1)] ∧ (∀ q ∈ ss', q.1.ok p bs (k + 1)) ∧ max M' (dpS ss') = s.dp ∧ N' + lvS ss' = s.lv ∧ 2 * lvS ss' - ss'.length ≤ m' ∧ ss'.length ≤ lvS ss' := by
              refine ⟨w - 1, by omega, (y, f + 1) :: (x, f + 1) :: ss, M, N, rfl, rfl, ?_, fun q hq => ?_, ?_, ?_, ?_, ?_⟩
              · simp [stS]
              · rcases List.mem_cons.mp hq with rfl | hq
                · exact hy
                · rcases List.mem_cons.mp hq with rfl | hq
                  · exact hx
                  · exact hg q (List.mem_cons_of_mem _ hq)
              · simp only [dpS, List.foldr_cons] at hM ⊢; omega
              · simp only [lvS, List.map_cons, List.sum_cons] at hN ⊢; omega
              · simp only [lvS, List.map_cons, List.sum_cons, List.length_cons] at hw hss ⊢; omega
              · simp only [lvS, List.map_cons, List.sum_cons, List.length_cons] at hss ⊢; omega
            obtain ⟨m', hm', ss', M', N', rfl, rfl, hst', hg', hM', hN', hw', hl'⟩ := fin
            cases o
            all_goals
              simp only [Sg.d]
              trivial
              rw [show ∀ (h' : Hea) (z : List Nat), ixH h' (.tup [.str z, x.d, y.d]) (.int 0) = some (.str z) from fun _ _ => rfl]
              trivial
              rw [B_cons]
              trivial
              refine ⟨rcv_of g2 (fun z => nomatch z), ?_⟩
              rw [show ∀ (h' : Hea) (z : List Nat), ixH h' (.tup [.str z, x.d, y.d]) (.int 1) = some x.d from fun _ _ => rfl]
              trivial
              rw [show ∀ (h' : Hea) (z : List Nat), ixH h' (.tup [.str z, x.d, y.d]) (.int 2) = some y.d from fun _ _ => rfl]
              trivial
              refine ⟨by unfold SL; omega, by unfold SL; omega, by unfold SL; omega, ?_⟩
              rw [ext_ok g2 (es := [prS (x, f + 1), prS (y, f + 1)]) rfl (by unfold stS; rw [List.length_reverse, List.length_map]; unfold lvS at hss; unfold SL; simp; omega) (by simp [prS, below_nb x.nb, below_nb y.nb]), put_top]
              trivial
              exact ⟨m', hm', ss', M', N', _, _, rfl, by rw [hst'], hg', hM', hN', hw', hl'⟩
    · intro q hq
      have : q = (s, 0) := by simpa using hq
      subst this
      exact hk
  · rintro ρ h' ⟨⟨x, y, rfl⟩, c, rfl⟩
    rw [B_cons]
    trivial
    refine ⟨by unfold SL; omega, ?_⟩
    rw [leave_tup (by simp), trunc_cons (Nat.le_refl _), trunc_self]
    trivial
theorem value_at (e : Fs[g]? = some (valueF g)) {p : Int} {bs xs : List Int} (hx : p ≤ xs.length) {s : Sg} {k N : Nat} (hk : s.ok p bs k) (hN : k + 1 ≤ N) (h : Hea) : WP (run Fs N g [s.d, dI xs] h) (fun d h' => ∃ i, d = .int i ∧ (i = b2i (s.v xs) ∧ h' = h)) NX := by
  have := value_run e hx hk (N - (k + 1)) h
  rwa [show k + 1 + (N - (k + 1)) = N by omega] at this
theorem deep_at (e : Fs[g]? = some (deepF g)) {p : Int} {bs : List Int} {s : Sg} {k N : Nat} (hk : s.ok p bs k) (hN : k + 1 ≤ N) (h : Hea) : WP (run Fs N g [s.d] h) (fun d h' => ∃ i, d = .int i ∧ (i = (s.dp : Int) ∧ h' = h)) NX := by
  have := deep_run e hk (N - (k + 1)) h
  rwa [show k + 1 + (N - (k + 1)) = N by omega] at this
theorem leaves_at (e : Fs[g]? = some (leavesF g)) {p : Int} {bs : List Int} {s : Sg} {k N : Nat} (hk : s.ok p bs k) (hN : k + 1 ≤ N) (h : Hea) : WP (run Fs N g [s.d] h) (fun d h' => ∃ i, d = .int i ∧ (i = (s.lv : Int) ∧ h' = h)) NX := by
  have := leaves_run e hk (N - (k + 1)) h
  rwa [show k + 1 + (N - (k + 1)) = N by omega] at this
theorem mask_at (e : Fs[g]? = some (maskF g)) {p : Nat} (hp : p ≤ 10) {bs : List Int} {s : Sg} {k N : Nat} (hk : s.ok p bs k) (hN : k + 1 ≤ N) (h : Hea) : WP (run Fs N g [.int p, s.d] h) (fun d h' => ∃ i, d = .int i ∧ ((∃ M : Nat, i = M ∧ ∀ j, M.testBit j = (decide (j < 2 ^ p) && s.v (bits p j))) ∧ h' = h)) NX := by
  have := mask_run e hp hk (N - (k + 1)) h
  rwa [show k + 1 + (N - (k + 1)) = N by omega] at this
theorem pen0_run (e : Fs[g]? = some penDF) {ns : List Int} {k : Nat} : WP (run Fs (k + 1) g [.scr ns] []) (fun d h' => d = .ref 0 ∧ h' = [.dic K3 [.scr ns, .int 0, .int 0]]) NX := by
  rw [run_at e]; exact penD_ok
end
end MP

/-! Tables of sayings, the saying against, tables that grow. -/
namespace MP
open PySem
local macro_rules | `(tactic| trivial) => `(tactic| try simp -implicitDefEqProofs only [WP_ok, WP_nox, Nam_some, Opt_some, Opt_if, Ite_tt, Ite_ff, IntV_int, TupV_tup, setAll, BlV_bl, ↓Nxt_nx, ↓Nxt_rt, ↓Nxt_bk, ↓Nxt_ct, ↓Nxt_xc, ↓Bod_nx, ↓Bod_ct, ↓Bod_bk, ↓Bod_rt, ↓Bod_xc, ↓Ret_rt, ↓Ret_nx, ↓Ret_xc,
  ↓W_cst, ↓W_nam, ↓W_bin, ↓W_neg, ↓W_cmp, ↓W_land, ↓W_lor, ↓W_lnot, ↓W_ite, ↓W_nil, ↓W_cons, ↓W_tup, ↓W_lst, ↓W_dic, ↓W_idx, ↓W_ono, ↓W_oso, ↓W_slc, ↓W_cal, ↓W_blt, ↓W_mth, ↓W_val, ↓W_rng, ↓W_rng2, ↓W_zip, ↓W_enu, ↓W_glb, ↓W_lc, ↓W_lcc, ↓W_chn,
  ↓T_cmp, ↓T_chn, ↓T_land, ↓T_lor, ↓T_lnot, ↓T_ite, ↓T_cst, ↓T_nam, ↓T_idx, ↓T_cal, ↓T_blt, ↓T_bin, tru_bl, tru_int, B_nil, S_exp, S_set, S_sti, S_ifs, S_whl, S_for, S_ret, S_rtn, S_brk, S_cnt, S_unp,
  bop_add, bop_sub, bop_mul, bop_fdiv, bop_mod, bop_pow, bop_shl, bop_shr, bop_and, bop_or, bop_xor, bop_tup, bop_str, bop_smul, bop_rep, bop_cat, cop_eq_int, cop_ne_int, cop_lt_int, cop_le_int, cop_gt_int, cop_ge_int, cop_isB, cop_notB, mk_int', mk_bl', mk_non', mk_str', mk_tup', mk_ff, mk_tt, mk_ttD,
  bl_len_scr, bl_len_lst, bl_len_tup, bl_len_str, bl_abs, bl_max, bl_min, bl_int, bl_intb, bl_str, bl_tuple_lst, bl_tuple_tup, bl_list_lst, bl_list_tup, bl_all, bl_any, bl_sum, bl_isi, isi_int, isi_bl, isi_str, isi_tup, isi_lst, isi_non, isi_dic, omap_some, isTy, List.any_cons, List.any_nil, Bool.or_false, Bool.or_true, Bool.true_or, Bool.false_or,
  leave_int, leave_bl, leave_non, leave_str, walkV_lst, walkV_tup, wipeE, if_true, decide_true, decide_false, Int.cast_ofNat_Int, Int.natCast_zero, Int.natCast_one, Bool.false_eq_true, if_false, Bool.not_true, Bool.not_false, Nat.zero_le, true_and, and_true, ne_eq, not_false_eq_true,
  start, List.map_cons, List.map_nil, List.length_cons, List.length_nil, List.replicate, List.cons_append, List.nil_append, List.set_cons_zero, List.set_cons_succ, List.getElem?_cons_zero, List.getElem?_cons_succ, Nat.reduceSub, Nat.reduceAdd, Int.reduceEq, Int.reduceLE, Int.reduceLT, Int.reducePow, Int.reduceToNat, Nat.reduceLT, Nat.reduceLeDiff, Int.reduceNeg, Nat.reducePow, bindT_one, s_ii, s_ai, s_oi, s_aa, s_oa])
def tableByF (gv gw : Nat) : Fn := ⟨2, 3, false,
   [.ret (.blt true .tuple (.cons (.lc false (.cal false gv (.cons (.nam 1) (.cons (.nam 2) .nil))) (.one 2) (.val (.cal false gw (.cons (.nam 0) .nil))) .none [2]) .nil))]⟩
def againstF (g : Nat) : Fn := ⟨1, 4, false,
   [.unp [1, 2, 3] (.nam 0),
    .ifs (.cmp .eq (.nam 1) (.cst (.str [105, 115])))
     [.ret (.tup (.cons (.cst (.str [105, 115])) (.cons (.nam 2) (.cons (.bin false .sub (.cst (.int 1)) (.nam 3)) .nil))))]
     [],
    .ret (.tup (.cons (.idx (.dic false (.cons (.cst (.str [97, 110, 100])) (.cons (.cst (.str [111, 114])) (.cons (.cst (.str [111, 114])) (.cons (.cst (.str [97, 110, 100])) .nil))))) (.nam 1)) (.cons (.cal false g (.cons (.nam 2) .nil)) (.cons (.cal false g (.cons (.nam 3) .nil)) .nil))))]⟩
def withoutF (g : Nat) : Fn := ⟨1, 4, false,
   [.unp [1, 2, 3] (.nam 0),
    .ifs (.cmp .eq (.nam 1) (.cst (.str [105, 115])))
     [.ret (.cmp .eq (.nam 3) (.cst (.int 1)))]
     [],
    .ret (.land (.cal false g (.cons (.nam 2) .nil)) (.cal false g (.cons (.nam 3) .nil)))]⟩
def placesF (g : Nat) : Fn := ⟨1, 1, false,
   [.ret (.cal true g (.cons (.blt false .len (.cons (.nam 0) .nil)) .nil))]⟩
def growsF (g : Nat) : Fn := ⟨1, 3, false,
   [.for_ (.one 1) (.rng (.blt false .len (.cons (.nam 0) .nil)))
     [.for_ (.one 2) (.rng (.cal false g (.cons (.nam 0) .nil)))
       [.ifs (.cmp .gt (.idx (.nam 0) (.nam 1)) (.idx (.nam 0) (.bin false .bor (.nam 1) (.bin false .shl (.cst (.int 1)) (.nam 2)))))
         [.ret (.cst (.bl false))]
         []]],
    .ret (.cst (.bl true))]⟩

namespace Sg
def ag : Sg → Sg
  | is i b => is i (1 - b)
  | jn o x y => jn (!o) x.ag y.ag
def nn : Sg → Bool
  | is _ b => decide (b = 1)
  | jn _ x y => x.nn && y.nn
end Sg
theorem Sg.ag_ag : ∀ {s : Sg}, s.ag.ag = s
  | .is i b => by simp only [Sg.ag, Sg.is.injEq, true_and]; omega
  | .jn o x y => by simp only [Sg.ag, Bool.not_not]; rw [x.ag_ag, y.ag_ag]
theorem Sg.ok.ag {p : Int} : ∀ {s : Sg} {k : Nat}, s.ok p [0, 1] k → s.ag.ok p [0, 1] k
  | .is i b, k, h => by
    unfold Sg.ok at h; unfold Sg.ag Sg.ok
    have hb : b = 0 ∨ b = 1 := by simpa using h.2.2
    exact ⟨h.1, h.2.1, by rcases hb with rfl | rfl <;> simp⟩
  | .jn o x y, 0, h => by unfold Sg.ok at h; exact h.elim
  | .jn o x y, k + 1, h => by
    unfold Sg.ok at h
    unfold Sg.ag Sg.ok
    exact ⟨h.1.ag, h.2.ag⟩
/-- a word's places are 0 or 1 -/
def Bits (p : Int) (xs : List Int) : Prop := ∀ i : Int, 0 ≤ i → i < p → xs[i.toNat]?.getD 0 = 0 ∨ xs[i.toNat]?.getD 0 = 1
theorem bits_Bits {p n : Nat} : Bits p (bits p n) := fun i h0 h1 => by rw [bits_at h0 h1]; omega
theorem Sg.v_ag {p : Int} {xs : List Int} (hx : Bits p xs) : ∀ {s : Sg} {k : Nat}, s.ok p [0, 1] k → s.ag.v xs = !s.v xs
  | .is i b, k, h => by
    unfold Sg.ok at h; unfold Sg.ag Sg.v
    have hb : b = 0 ∨ b = 1 := by simpa using h.2.2
    rcases hx i h.1 h.2.1 with q | q <;> rw [q] <;> rcases hb with rfl | rfl <;> decide
  | .jn o x y, 0, h => by unfold Sg.ok at h; exact h.elim
  | .jn o x y, k + 1, h => by
    unfold Sg.ok at h
    have h1 := Sg.v_ag hx h.1
    have h2 := Sg.v_ag hx h.2
    unfold Sg.ag Sg.v
    rw [h1, h2]
    cases o <;> simp
theorem Sg.v_mono {p : Int} {xs ys : List Int} (hy : ∀ i : Int, 0 ≤ i → i < p → xs[i.toNat]?.getD 0 = 1 → ys[i.toNat]?.getD 0 = 1) : ∀ {s : Sg} {k : Nat} {bs : List Int}, s.ok p bs k → s.nn = true → s.v xs = true → s.v ys = true
  | .is i b, k, bs, h, n, e => by
    unfold Sg.ok at h; unfold Sg.nn at n; unfold Sg.v at e ⊢
    have n := of_decide_eq_true n
    have e := of_decide_eq_true e
    subst n
    exact decide_eq_true (hy i h.1 h.2.1 e)
  | .jn o x y, 0, bs, h, n, e => by unfold Sg.ok at h; exact h.elim
  | .jn o x y, k + 1, bs, h, n, e => by
    unfold Sg.ok at h; unfold Sg.nn at n; unfold Sg.v at e ⊢
    rw [Bool.and_eq_true] at n
    have h1 := Sg.v_mono hy h.1 n.1
    have h2 := Sg.v_mono hy h.2 n.2
    cases o
    · simp only [Bool.false_eq_true, if_false, Bool.or_eq_true] at e ⊢
      exact e.imp h1 h2
    · simp only [if_true, Bool.and_eq_true] at e ⊢
      exact ⟨h1 e.1, h2 e.2⟩
def tabS (p : Nat) (s : Sg) : List Int := (List.range (2 ^ p)).map fun n => b2i (s.v (bits p n))
theorem tabS_len {p : Nat} {s : Sg} : (tabS p s).length = 2 ^ p := by unfold tabS; simp
theorem tabS_at {p n : Nat} {s : Sg} (h : n < 2 ^ p) : (tabS p s)[n]?.getD 0 = b2i (s.v (bits p n)) := by
  unfold tabS
  rw [List.getElem?_map, List.getElem?_range h]; rfl
theorem W_lcds {el : Env → Hea → R D} {v : Nat} {ρ : Env} {h : Hea} {Q : List D → Hea → Prop} {E : Xc → Hea → Prop} {ds : List D} (f : D → D) (hl : ds.length ≤ SL) (hs : ∀ x ∈ ds, WP (el (ρ.set v (some x)) h) (fun d h' => d = f x ∧ h' = h) NX) (hb : ∀ x ∈ ds, below h.length (f x) = true) (q : Q (ds.map f) h) :
    WP (lcL el (fun _ h => .ok true h) (.one v) ρ none (ds.map .v) [] h) Q E := by
  have := W_lcmap (E := E) (xs := ds) id f hl hs hb q
  rwa [List.map_id] at this
theorem below_dI {n : Nat} {xs : List Int} : below n (dI xs) = true := below_nb nb_dI
section
variable {Fs : List Fn} {g : Nat}
theorem words_run {gw : Nat} (e : Fs[g]? = some (allWordsF gw)) (ew : Fs[gw]? = some wordByF) {p N : Nat} (hp : p ≤ 20) (hN : 2 ≤ N) {h : Hea} : WP (run Fs N g [.int p] h) (fun d h' => d = .ref h.length ∧ h' = .lst (wordsD p) :: h) NX := by
  obtain ⟨k, rfl⟩ : ∃ k, N = (k + 1) + 1 := ⟨N - 2, by omega⟩
  rw [run_at e]; exact all_words_ok hp fun n => word_run ew k (by omega)
theorem tabby_at {gv gw gb : Nat} (e : Fs[g]? = some (tableByF gv gw)) (ev : Fs[gv]? = some (valueF gv)) (ew : Fs[gw]? = some (allWordsF gb)) (eb : Fs[gb]? = some wordByF) {p : Nat} (hp : p ≤ 10) {bs : List Int} {s : Sg} {k N : Nat} (hk : s.ok p bs k) (hN : k + 2 ≤ N) (hN2 : 3 ≤ N) {h : Hea} : WP (run Fs N g [.int p, s.d] h) (fun d h' => d = dI (tabS p s) ∧ h' = h) NX := by
  have hz : 2 ^ p ≤ 2 ^ 10 := Nat.pow_le_pow_right (by omega) hp
  obtain ⟨k', rfl⟩ : ∃ k', N = k' + 1 := ⟨N - 1, by omega⟩
  rw [run_at e]
  refine WP_exF rfl ?_
  simp only [tableByF]
  rw [B_cons]
  trivial
  refine W_meltL (P := fun es h'' => es = wordsD p ∧ h'' = h) ((words_run ew eb (by omega) (by omega)).nx fun d h' q => ⟨wordsD p, h, q.1, q.2, Nat.le_refl _, rfl, rfl⟩) ?_
  rintro es h2 ⟨rfl, rfl⟩
  trivial
  unfold wordsD
  refine W_lcmap (xs := List.range (2 ^ p)) (fun n => dI (bits p n)) (fun n => .int (b2i (s.v (bits p n)))) (by rw [List.length_range]; unfold SL; omega) (fun n hn => ?_) (fun _ _ => below_int) ?_
  · trivial
    refine W_meltI (value_at ev (by rw [bits_len]; exact Int.le_refl _) hk (by omega) h2) ?_
    rintro i h' ⟨rfl, rfl⟩
    exact ⟨rfl, rfl⟩
  · trivial
    rw [show (List.range (2 ^ p)).map (fun n => D.int (b2i (s.v (bits p n)))) = (tabS p s).map .int by unfold tabS; rw [List.map_map]; rfl]
    rw [leave_tup (by simp)]
    trivial
    exact ⟨rfl, trunc_self⟩
theorem dic_ao {h : Hea} : ixH h (.dic [.str [97, 110, 100], .str [111, 114]] [.str [111, 114], .str [97, 110, 100]]) (.str [97, 110, 100]) = some (.str [111, 114]) := by
  simp [ixH, isKey, dGet, keyEq]
theorem dic_oa {h : Hea} : ixH h (.dic [.str [97, 110, 100], .str [111, 114]] [.str [111, 114], .str [97, 110, 100]]) (.str [111, 114]) = some (.str [97, 110, 100]) := by
  simp [ixH, isKey, dGet, keyEq]
theorem against_at (e : Fs[g]? = some (againstF g)) {p : Int} {bs : List Int} : ∀ {s : Sg} {k N : Nat}, s.ok p bs k → k + 1 ≤ N → ∀ h : Hea, WP (run Fs N g [s.d] h) (fun d h' => d = s.ag.d ∧ h' = h) NX := by
  intro s
  induction s with
  | is i b =>
    intro k N hk hN h
    obtain ⟨k', rfl⟩ : ∃ k', N = k' + 1 := ⟨N - 1, by omega⟩
    rw [run_at e]
    refine WP_exF rfl ?_
    simp only [againstF]
    rw [B_cons]
    simp only [Sg.d]
    trivial
    rw [B_cons]
    trivial
    rw [B_cons]
    trivial
    refine ⟨SL_3, ?_⟩
    rw [leave_tup (by simp)]
    trivial
    exact ⟨rfl, trunc_self⟩
  | jn o x y ix iy =>
    intro k N hk hN h
    cases k with
    | zero => unfold Sg.ok at hk; exact hk.elim
    | succ k =>
      unfold Sg.ok at hk
      obtain ⟨k', rfl⟩ : ∃ k', N = k' + 1 := ⟨N - 1, by omega⟩
      rw [run_at e]
      refine WP_exF rfl ?_
      simp only [againstF]
      rw [B_cons]
      simp only [Sg.d]
      have vx := ix hk.1 (show k + 1 ≤ k' by omega)
      have vy := iy hk.2 (show k + 1 ≤ k' by omega)
      cases o <;> trivial
      all_goals
        rw [B_cons]
        trivial
        rw [B_cons]
        trivial
        rw [show disp [D.str [97, 110, 100], .str [111, 114], .str [111, 114], .str [97, 110, 100]] = some (.dic [.str [97, 110, 100], .str [111, 114]] [.str [111, 114], .str [97, 110, 100]]) by simp [disp, evens, odds, nodupK, isKey, keyEq]]
        trivial
        simp only [dic_ao, dic_oa]
        trivial
        refine W_meltV ((vx h).nx fun d h' q => ?_)
        obtain ⟨rfl, rfl⟩ := q
        refine ⟨nb_ref x.ag.nb, ?_⟩
        trivial
        refine W_meltV ((vy h').nx fun d h' q => ?_)
        obtain ⟨rfl, rfl⟩ := q
        refine ⟨nb_ref y.ag.nb, ?_⟩
        trivial
        refine ⟨SL_3, ?_⟩
        rw [leave_tup (by simp [below_nb x.ag.nb, below_nb y.ag.nb])]
        trivial
        exact ⟨rfl, trunc_self⟩
theorem without_at (e : Fs[g]? = some (withoutF g)) {p : Int} {bs : List Int} : ∀ {s : Sg} {k N : Nat}, s.ok p bs k → k + 1 ≤ N → ∀ h : Hea, WP (run Fs N g [s.d] h) (fun d h' => ∃ b, d = .bl b ∧ (b = s.nn ∧ h' = h)) NX := by
  intro s
  induction s with
  | is i b =>
    intro k N hk hN h
    obtain ⟨k', rfl⟩ : ∃ k', N = k' + 1 := ⟨N - 1, by omega⟩
    rw [run_at e]
    refine WP_exF rfl ?_
    simp only [withoutF]
    rw [B_cons]
    simp only [Sg.d]
    trivial
    rw [B_cons]
    trivial
    rw [B_cons]
    trivial
    exact ⟨_, rfl, rfl, trunc_self⟩
  | jn o x y ix iy =>
    intro k N hk hN h
    cases k with
    | zero => unfold Sg.ok at hk; exact hk.elim
    | succ k =>
      unfold Sg.ok at hk
      obtain ⟨k', rfl⟩ : ∃ k', N = k' + 1 := ⟨N - 1, by omega⟩
      rw [run_at e]
      refine WP_exF rfl ?_
      simp only [withoutF]
      rw [B_cons]
      simp only [Sg.d]
      have vx := ix hk.1 (show k + 1 ≤ k' by omega)
      have vy := iy hk.2 (show k + 1 ≤ k' by omega)
      cases o <;> trivial
      all_goals
        rw [B_cons]
        trivial
        rw [B_cons]
        trivial
        refine W_meltB (vx h) ?_
        rintro b h1 ⟨rfl, rfl⟩
        trivial
        refine Ite.mk (fun hx => ?_) (fun hx => ?_)
        · refine W_meltB (vy h1) ?_
          rintro b h2 ⟨rfl, rfl⟩
          trivial
          exact ⟨_, rfl, by simp only [Sg.nn]; rw [hx]; rfl, trunc_self⟩
        · trivial
          exact ⟨_, rfl, by simp only [Sg.nn]; rw [hx]; rfl, trunc_self⟩
/-! ### tables that grow -/
theorem height_run (e : Fs[g]? = some heightF) (k : Nat) {p : Nat} {h : Hea} (hp : p ≤ 20) : WP (run Fs (k + 1) g [.int ((2 ^ p : Nat) : Int)] h) (fun d h' => ∃ i : Int, d = .int i ∧ (i = p ∧ h' = h)) NX := by
  rw [run_at e]
  have up : ∀ {k j : Nat}, j ≤ k → (2 : Int) ^ j ≤ 2 ^ k := fun {k j} hj => by
    have := Nat.pow_le_pow_right (n := 2) (by omega) hj
    exact_mod_cast this
  have ec : ((2 ^ p : Nat) : Int) = (2 : Int) ^ p := by norm_cast
  refine (height_ok (K := p) (by omega) (by rw [ec]; exact Int.le_refl _)).mono fun d h' ⟨k, e, e2, e3, e4, e5⟩ => ⟨k, e, ?_, e2⟩
  rcases Nat.lt_or_ge k p with z | z
  · exfalso
    rw [ec] at e3
    have h1 : (2 : Int) ^ (k + 1) ≤ 2 ^ p := up z
    have h2 : (2 : Int) ^ (k + 1) = 2 ^ k * 2 := by rw [Int.pow_succ]
    have h3 : (0 : Int) < 2 ^ k := Int.pow_pos (by omega)
    omega
  · have : k = p := by omega
    rw [this]
theorem places_run {gh : Nat} (e : Fs[g]? = some (placesF gh)) (eh : Fs[gh]? = some heightF) (k : Nat) {p : Nat} (hp : p ≤ 20) {T : List Int} (hT : T.length = 2 ^ p) {h : Hea} : WP (run Fs (k + 2) g [dI T] h) (fun d h' => ∃ i : Int, d = .int i ∧ (i = p ∧ h' = h)) NX := by
  rw [show k + 2 = (k + 1) + 1 from rfl, run_at e]
  refine WP_exF rfl ?_
  simp only [placesF]
  rw [B_cons]
  unfold dI
  trivial
  rw [List.length_map, hT]
  refine (height_run eh k hp).nx ?_
  rintro d h' ⟨i, rfl, rfl, rfl⟩
  trivial
  exact ⟨_, rfl, rfl, trunc_self⟩
def tv (T : List Int) (n : Nat) : Int := T[n]?.getD 0
def Grows (p : Nat) (T : List Int) : Prop := ∀ n < 2 ^ p, ∀ k < p, tv T n ≤ tv T (n ||| 2 ^ k)
theorem ix_tv {h : Hea} {T : List Int} {n : Nat} (hn : n < T.length) : ixH h (dI T) (.int n) = some (.int (tv T n)) := by
  rw [ix_dI (by omega) (by omega)]; rfl
theorem grows_run {gp gh : Nat} (e : Fs[g]? = some (growsF gp)) (ep : Fs[gp]? = some (placesF gh)) (eh : Fs[gh]? = some heightF) (k : Nat) {p : Nat} (hp : p ≤ 10) {T : List Int} (hT : T.length = 2 ^ p) {h : Hea} : WP (run Fs (k + 3) g [dI T] h) (fun d h' => ∃ b, d = .bl b ∧ ((b = true ↔ Grows p T) ∧ h' = h)) NX := by
  have hz : 2 ^ p ≤ 2 ^ 10 := Nat.pow_le_pow_right (by omega) hp
  rw [show k + 3 = (k + 2) + 1 from rfl, run_at e]
  refine WP_exF rfl ?_
  simp only [growsF]
  refine B_seq (fun ρ h' => h' = h ∧ Grows p T) ?_ ?_
  · trivial
    rw [show bltH .len h [dI T] = some (.int ((2 ^ p : Nat) : Int)) by unfold dI; rw [bl_len_tup, List.length_map, hT]]
    trivial
    refine ⟨⟨R62_0, R62_nat (by omega)⟩, ?_⟩
    refine frL_rng (fun n ρ h' => (∃ x y, ρ = [some (dI T), x, y]) ∧ h' = h ∧ ∀ m < n, ∀ k < p, tv T m ≤ tv T (m ||| 2 ^ k)) ⟨⟨_, _, rfl⟩, rfl, fun m hm => by omega⟩ ?_ ?_
    · rintro n hn ρ h' ⟨⟨x, y, rfl⟩, rfl, hg⟩
      have hn2 : n < 2 ^ p := by omega
      rw [B_cons, Int.zero_add]
      trivial
      refine W_meltI (places_run ep eh k (by omega) hT) ?_
      rintro i h' ⟨rfl, rfl⟩
      trivial
      refine ⟨⟨R62_0, R62_nat (by omega)⟩, ?_⟩
      refine frL_rng (fun j ρ h2 => (∃ y, ρ = [some (dI T), some (.int n), y]) ∧ h2 = h' ∧ ∀ k < j, tv T n ≤ tv T (n ||| 2 ^ k)) ⟨⟨_, rfl⟩, rfl, fun m hm => by omega⟩ ?_ ?_
      · rintro j hj ρ h2 ⟨⟨y, rfl⟩, rfl, hg2⟩
        have hj2 : j < p := by omega
        have hb : n ||| 2 ^ j < 2 ^ p := Nat.or_lt_two_pow hn2 (Nat.pow_lt_pow_right (by omega) hj2)
        rw [B_cons, Int.zero_add]
        trivial
        rw [ix_tv (n := n) (by omega)]
        trivial
        refine ⟨by omega, ?_⟩
        rw [Int.toNat_natCast, pow2_cast, or_nat, ix_tv (n := n ||| 2 ^ j) (by omega)]
        trivial
        refine IteD (fun hc => ?_) (fun hc => ?_)
        · rw [B_cons]
          trivial
          refine ⟨false, rfl, ?_, trunc_self⟩
          refine ⟨fun z => (nomatch z), fun z => ?_⟩
          have := z n hn2 j hj2
          omega
        · trivial
          refine ⟨⟨_, rfl⟩, fun k hk => ?_⟩
          rcases Nat.lt_or_ge k j with q | q
          · exact hg2 k q
          · have : k = j := by omega
            subst this
            omega
      · rintro ρ h2 ⟨⟨y, rfl⟩, rfl, hg2⟩
        trivial
        refine ⟨⟨_, _, rfl⟩, fun m hm k hk => ?_⟩
        rcases Nat.lt_or_ge m n with q | q
        · exact hg m q k hk
        · have : m = n := by omega
          subst this
          exact hg2 k (by omega)
    · rintro ρ h' ⟨⟨x, y, rfl⟩, rfl, hg⟩
      trivial
      exact fun n hn k hk => hg n (by omega) k hk
  · rintro ρ h' ⟨rfl, hg⟩
    rw [B_cons]
    trivial
    exact ⟨true, rfl, ⟨fun _ => hg, fun _ => rfl⟩, trunc_self⟩
end
end MP

/-! Picks in nested cells, words counted up, words side by side, slices. -/
namespace MP
open PySem
local macro_rules | `(tactic| trivial) => `(tactic| try simp -implicitDefEqProofs only [WP_ok, WP_nox, Nam_some, Opt_some, Opt_if, Ite_tt, Ite_ff, IntV_int, TupV_tup, setAll, BlV_bl, ↓Nxt_nx, ↓Nxt_rt, ↓Nxt_bk, ↓Nxt_ct, ↓Nxt_xc, ↓Bod_nx, ↓Bod_ct, ↓Bod_bk, ↓Bod_rt, ↓Bod_xc, ↓Ret_rt, ↓Ret_nx, ↓Ret_xc,
  ↓W_cst, ↓W_nam, ↓W_bin, ↓W_neg, ↓W_cmp, ↓W_land, ↓W_lor, ↓W_lnot, ↓W_ite, ↓W_nil, ↓W_cons, ↓W_tup, ↓W_lst, ↓W_dic, ↓W_idx, ↓W_ono, ↓W_oso, ↓W_slc, ↓W_cal, ↓W_blt, ↓W_mth, ↓W_val, ↓W_rng, ↓W_rng2, ↓W_zip, ↓W_enu, ↓W_glb, ↓W_lc, ↓W_lcc, ↓W_chn,
  ↓T_cmp, ↓T_chn, ↓T_land, ↓T_lor, ↓T_lnot, ↓T_ite, ↓T_cst, ↓T_nam, ↓T_idx, ↓T_cal, ↓T_blt, ↓T_bin, tru_bl, tru_int, B_nil, S_exp, S_set, S_sti, S_ifs, S_whl, S_for, S_ret, S_rtn, S_brk, S_cnt, S_unp,
  bop_add, bop_sub, bop_mul, bop_fdiv, bop_mod, bop_pow, bop_shl, bop_shr, bop_and, bop_or, bop_xor, bop_tup, bop_str, bop_smul, bop_rep, bop_cat, cop_eq_int, cop_ne_int, cop_lt_int, cop_le_int, cop_gt_int, cop_ge_int, cop_isB, cop_notB, mk_int', mk_bl', mk_non', mk_str', mk_tup', mk_ff, mk_tt, mk_ttD,
  bl_len_scr, bl_len_lst, bl_len_tup, bl_len_str, bl_abs, bl_max, bl_min, bl_int, bl_intb, bl_str, bl_tuple_lst, bl_tuple_tup, bl_list_lst, bl_list_tup, bl_all, bl_any, bl_sum, bl_isi, isi_int, isi_bl, isi_str, isi_tup, isi_lst, isi_non, isi_dic, omap_some, isTy, List.any_cons, List.any_nil, Bool.or_false, Bool.or_true, Bool.true_or, Bool.false_or,
  leave_int, leave_bl, leave_non, leave_str, walkV_lst, walkV_tup, wipeE, if_true, decide_true, decide_false, Int.cast_ofNat_Int, Int.natCast_zero, Int.natCast_one, Bool.false_eq_true, if_false, Bool.not_true, Bool.not_false, Nat.zero_le, true_and, and_true, ne_eq, not_false_eq_true,
  start, List.map_cons, List.map_nil, List.length_cons, List.length_nil, List.replicate, List.cons_append, List.nil_append, List.set_cons_zero, List.set_cons_succ, List.getElem?_cons_zero, List.getElem?_cons_succ, Nat.reduceSub, Nat.reduceAdd, Int.reduceEq, Int.reduceLE, Int.reduceLT, Int.reducePow, Int.reduceToNat, Nat.reduceLT, Nat.reduceLeDiff, Int.reduceNeg, Nat.reducePow, bindT_one, s_ii, s_ai, s_oi, s_aa, s_oa])
def lawWordsF : Fn := ⟨1, 3, false,
   [.ret (.lc true (.blt false .tuple (.cons (.lc false (.bin false .band (.bin false .shr (.nam 1) (.bin false .sub (.bin false .sub (.nam 0) (.cst (.int 1))) (.nam 2))) (.cst (.int 1))) (.one 2) (.rng (.nam 0)) .none [2]) .nil)) (.one 1) (.rng (.bin false .shl (.cst (.int 1)) (.nam 0))) .none [1])]⟩
def aboveF : Fn := ⟨2, 4, false,
   [.ret (.blt true .all (.cons (.lc false (.cmp .ge (.nam 2) (.nam 3)) (.many [2, 3]) (.zip (.nam 0) (.nam 1)) .none [2, 3]) .nil))]⟩

theorem Pen.up {t a : Nat} {c : Cell} {h : Hea} (p : Pen t h a) : Pen t (c :: h) a := by
  obtain ⟨x, y, z, g, q⟩ := p
  exact ⟨x, y, z, by rw [get_und (get_lt g)]; exact g, q⟩
theorem Pen.lt {t a : Nat} {h : Hea} (p : Pen t h a) : a < h.length := by obtain ⟨x, y, z, g, q⟩ := p; exact get_lt g
theorem Pen.le {t u a : Nat} {h : Hea} (p : Pen t h a) (hu : t ≤ u) : Pen u h a := by
  obtain ⟨x, y, z, g, q1, q2, q3⟩ := p
  exact ⟨x, y, z, g, q1, q2, by omega⟩
theorem PickOk.callU {C : CT} {g : Nat} (P : PickOk C g) {t a n : Nat} {many : Int} {c0 : Cell} {h : Hea} {Q : D → Hea → Prop} {E : Xc → Hea → Prop} (p : Pen t h a) (ht : t ≤ 1152921504606846976) (h0 : 0 < many) (h1 : many < 1073741824)
    (k : ∀ (i : Int) (h' : Hea), 0 ≤ i → i < many → (∃ c, h' = put h a c) → Pen (t + 1) h' a → Q (.int i) (c0 :: h')) : WP (melt n (C g [.ref a, .int many] (c0 :: h))) Q E := by
  have la := p.lt
  refine P.call (h := c0 :: h) p.up ht h0 h1 fun i h' i0 i1 ⟨c, e⟩ q => ?_
  rw [put_und la] at e
  subst e
  obtain ⟨x, y, z, g', q'⟩ := q
  rw [get_und (by rw [put_len]; exact la)] at g'
  exact k i _ i0 i1 ⟨c, rfl⟩ ⟨x, y, z, g', q'⟩
theorem slT {h : Hea} {ds : List D} {lo hi : Option Int} : slH h (.tup ds) lo hi = some (.tup (cut ds lo hi)) := rfl
theorem slL {h : Hea} {ds : List D} {lo hi : Option Int} : slH h (.lst ds) lo hi = some (.lst (cut ds lo hi)) := rfl
theorem cut_take {ds : List D} {k : Nat} (h : k ≤ ds.length) : cut ds none (some (k : Int)) = ds.take k := by
  unfold cut sIx
  simp only [List.drop_zero, Nat.sub_zero, Int.toNat_natCast, if_neg (show ¬ (k : Int) < 0 by omega), Nat.min_eq_left h]
theorem cut_drop {ds : List D} {k : Nat} (h : k ≤ ds.length) : cut ds (some (k : Int)) none = ds.drop k := by
  unfold cut sIx
  simp only [Int.toNat_natCast, if_neg (show ¬ (k : Int) < 0 by omega), Nat.min_eq_left h]
  rw [List.take_of_length_le (by rw [List.length_drop]; omega)]
theorem five {p : Nat} (h1 : 1 ≤ p) (h2 : p ≤ 5) : p ∈ [1, 2, 3, 4, 5] := by
  have : p = 1 ∨ p = 2 ∨ p = 3 ∨ p = 4 ∨ p = 5 := by omega
  rcases this with rfl | rfl | rfl | rfl | rfl <;> decide
theorem wordsD_len {p : Nat} : (wordsD p).length = 2 ^ p := by unfold wordsD; simp
theorem ix_wordsD {h : Hea} {p n : Nat} (hn : n < 2 ^ p) : ixH h (.lst (wordsD p)) (.int n) = some (dI (bits p n)) := by
  rw [ix_lst (k := n) (plc_pos (by rw [wordsD_len]; exact hn))]
  unfold wordsD
  rw [List.getElem?_map, List.getElem?_range hn]; rfl
theorem W_lczip {el : Env → Hea → R D} {i j : Nat} {ρ : Env} {h : Hea} {Q : List D → Hea → Prop} {E : Xc → Hea → Prop} {xs ys : List D} (f : D × D → D) (hl : xs.length ≤ SL)
    (hs : ∀ q ∈ xs.zip ys, WP (el ((ρ.set i (some q.1)).set j (some q.2)) h) (fun d h' => d = f q ∧ h' = h) NX) (hb : ∀ q ∈ xs.zip ys, below h.length (f q) = true) (q : Q ((xs.zip ys).map f) h) :
    WP (lcL el (fun _ h => .ok true h) (.many [i, j]) ρ none ((xs.zip ys).map pairD) [] h) Q E := by
  refine lcL_ind (fun n acc h' => acc = ((xs.zip ys).take n).map f ∧ h' = h) ⟨rfl, rfl⟩ ?_ ?_
  · rintro n hn acc h' ⟨rfl, rfl⟩
    have hn' : n < (xs.zip ys).length := by rw [List.length_map] at hn; exact hn
    have hm := List.getElem_mem hn'
    refine ⟨.tup [(xs.zip ys)[n].1, (xs.zip ys)[n].2], (ρ.set i (some (xs.zip ys)[n].1)).set j (some (xs.zip ys)[n].2), by rw [List.getElem_map]; rfl, rfl, ?_⟩
    rw [WP_ok]
    simp only [if_true]
    refine (hs _ hm).nx ?_
    rintro d h2 ⟨rfl, rfl⟩
    refine ⟨⟨?_, hb _ hm⟩, ?_, rfl⟩
    · rw [List.length_map, List.length_take]
      rw [List.length_zip] at hn'
      omega
    · rw [List.take_add_one, List.getElem?_eq_getElem hn', Option.toList_some, List.map_append]; rfl
  · rintro acc h' ⟨rfl, rfl⟩
    refine ⟨rfl, ?_⟩
    rw [List.length_map, List.take_length]
    exact q
section
variable {Fs : List Fn} {g : Nat}
theorem pick_at (e : Fs[g]? = some pickF) {N : Nat} (hN : 1 ≤ N) : PickOk (run Fs N) g := by
  obtain ⟨k, rfl⟩ : ∃ k, N = k + 1 := ⟨N - 1, by omega⟩
  exact .mk e
theorem pen_run (e : Fs[g]? = some penF) (k : Nat) {ns : List Int} {i : Nat} {h : Hea} (hi : i ≤ 100) : WP (run Fs (k + 1) g [.scr ns, .int i] h) (fun d h' => ∃ x y : Int, d = .ref h.length ∧ h' = .lst [.int x, .int y, .int 0] :: h ∧ 0 ≤ x) NX := by
  rw [run_at e]; exact pen_ok hi
theorem lawWords_at (e : Fs[g]? = some lawWordsF) {p N : Nat} {h : Hea} (hp : p ≤ 20) (hN : 1 ≤ N) : WP (run Fs N g [.int p] h) (fun d h' => d = .ref h.length ∧ h' = .lst (wordsD p) :: h) NX := by
  obtain ⟨k, rfl⟩ : ∃ k, N = k + 1 := ⟨N - 1, by omega⟩
  have hz : ((2 ^ p : Nat) : Int) ≤ 16777216 := by
    have : 2 ^ p ≤ 2 ^ 20 := Nat.pow_le_pow_right (by omega) hp
    omega
  rw [run_at e]
  refine WP_exF rfl ?_
  simp only [lawWordsF]
  rw [B_cons]
  trivial
  rw [Int.toNat_natCast, pow2_cast]
  refine ⟨by omega, ⟨R62_0, R62_of (Int.le_trans (by decide) (Int.natCast_nonneg _)) (Int.lt_of_le_of_lt hz (by decide))⟩, W_lcrng (fun n => dI (bits p n)) hz (fun n hn => ?_) (fun n _ => below_dI) ?_⟩
  · trivial
    refine ⟨⟨R62_0, R62_nat (by omega)⟩, W_lcrng (fun k => .int ((n / 2 ^ (p - 1 - k) % 2 : Nat) : Int)) (by omega) (fun k hk => ?_) (fun k _ => below_int) ?_⟩
    · trivial
      refine ⟨by omega, ?_⟩
      rw [PyProof.Rows.bitAnd_m1]
      have e : ((p : Int) - 1 - (k : Int)).toNat = p - 1 - k := by omega
      rw [e]
      norm_cast
    · trivial
      rw [Int.toNat_natCast]
      unfold dI bits
      rw [List.map_map]; rfl
  · trivial
    rw [Int.toNat_natCast, leave_new (Nat.le_refl _) get_top (belows_map fun _ _ => below_dI), trunc_cons (Nat.le_refl _), trunc_self]
    trivial
    rfl
def above (xs ys : List Int) : Bool := (xs.zip ys).all fun q => decide (q.2 ≤ q.1)
theorem zip_dI {xs ys : List Int} : walkZ (dI xs) (dI ys) = some ⟨((xs.map D.int).zip (ys.map D.int)).map pairD, none⟩ := rfl
theorem above_at (e : Fs[g]? = some aboveF) {N : Nat} (hN : 1 ≤ N) {xs ys : List Int} (hl : xs.length ≤ 100) {h : Hea} : WP (run Fs N g [dI xs, dI ys] h) (fun d h' => ∃ b, d = .bl b ∧ (b = above xs ys ∧ h' = h)) NX := by
  obtain ⟨k, rfl⟩ : ∃ k, N = k + 1 := ⟨N - 1, by omega⟩
  rw [run_at e]
  refine WP_exF rfl ?_
  simp only [aboveF]
  rw [B_cons]
  trivial
  rw [zip_dI]
  trivial
  refine W_lczip (fun q => match q with | (.int a, .int b) => .bl (decide (b ≤ a)) | _ => .non) (by rw [List.length_map]; unfold SL; omega) ?_ ?_ ?_
  · rintro ⟨a, b⟩ hq
    rw [List.zip_map] at hq
    obtain ⟨⟨x, y⟩, hx, e⟩ := List.mem_map.mp hq
    simp only [Prod.map, Prod.mk.injEq] at e
    obtain ⟨rfl, rfl⟩ := e
    trivial
  · rintro ⟨a, b⟩ hq
    rw [List.zip_map] at hq
    obtain ⟨⟨x, y⟩, hx, e⟩ := List.mem_map.mp hq
    simp only [Prod.map, Prod.mk.injEq] at e
    obtain ⟨rfl, rfl⟩ := e
    exact below_bl
  · trivial
    rw [show (((xs.map D.int).zip (ys.map D.int)).map fun q => match q with | (.int a, .int b) => D.bl (decide (b ≤ a)) | _ => .non) = ((xs.zip ys).map fun q => decide (q.2 ≤ q.1)).map D.bl by
      rw [List.zip_map, List.map_map, List.map_map]; rfl, bl_all]
    trivial
    refine ⟨_, rfl, ?_, trunc_self⟩
    unfold above
    rw [List.all_map]; rfl
end
end MP

set_option maxHeartbeats 4000000
/-! Cases drawn, what a saying misses. -/
namespace MP
open PySem
local macro_rules | `(tactic| trivial) => `(tactic| try simp -implicitDefEqProofs only [WP_ok, WP_nox, Nam_some, Opt_some, Opt_if, Ite_tt, Ite_ff, IntV_int, TupV_tup, setAll, BlV_bl, ↓Nxt_nx, ↓Nxt_rt, ↓Nxt_bk, ↓Nxt_ct, ↓Nxt_xc, ↓Bod_nx, ↓Bod_ct, ↓Bod_bk, ↓Bod_rt, ↓Bod_xc, ↓Ret_rt, ↓Ret_nx, ↓Ret_xc,
  ↓W_cst, ↓W_nam, ↓W_bin, ↓W_neg, ↓W_cmp, ↓W_land, ↓W_lor, ↓W_lnot, ↓W_ite, ↓W_nil, ↓W_cons, ↓W_tup, ↓W_lst, ↓W_dic, ↓W_idx, ↓W_ono, ↓W_oso, ↓W_slc, ↓W_cal, ↓W_blt, ↓W_mth, ↓W_val, ↓W_rng, ↓W_rng2, ↓W_zip, ↓W_enu, ↓W_glb, ↓W_lc, ↓W_lcc, ↓W_chn,
  ↓T_cmp, ↓T_chn, ↓T_land, ↓T_lor, ↓T_lnot, ↓T_ite, ↓T_cst, ↓T_nam, ↓T_idx, ↓T_cal, ↓T_blt, ↓T_bin, tru_bl, tru_int, B_nil, S_exp, S_set, S_sti, S_ifs, S_whl, S_for, S_ret, S_rtn, S_brk, S_cnt, S_unp,
  bop_add, bop_sub, bop_mul, bop_fdiv, bop_mod, bop_pow, bop_shl, bop_shr, bop_and, bop_or, bop_xor, bop_tup, bop_str, bop_smul, bop_rep, bop_cat, cop_eq_int, cop_ne_int, cop_lt_int, cop_le_int, cop_gt_int, cop_ge_int, cop_isB, cop_notB, mk_int', mk_bl', mk_non', mk_str', mk_tup', mk_ff, mk_tt, mk_ttD,
  bl_len_scr, bl_len_lst, bl_len_tup, bl_len_str, bl_abs, bl_max, bl_min, bl_int, bl_intb, bl_str, bl_tuple_lst, bl_tuple_tup, bl_list_lst, bl_list_tup, bl_all, bl_any, bl_sum, bl_isi, isi_int, isi_bl, isi_str, isi_tup, isi_lst, isi_non, isi_dic, omap_some, isTy, List.any_cons, List.any_nil, Bool.or_false, Bool.or_true, Bool.true_or, Bool.false_or,
  leave_int, leave_bl, leave_non, leave_str, walkV_lst, walkV_tup, wipeE, if_true, decide_true, decide_false, Int.cast_ofNat_Int, Int.natCast_zero, Int.natCast_one, Bool.false_eq_true, if_false, Bool.not_true, Bool.not_false, Nat.zero_le, true_and, and_true, ne_eq, not_false_eq_true,
  start, List.map_cons, List.map_nil, List.length_cons, List.length_nil, List.replicate, List.cons_append, List.nil_append, List.set_cons_zero, List.set_cons_succ, List.getElem?_cons_zero, List.getElem?_cons_succ, Nat.reduceSub, Nat.reduceAdd, Int.reduceEq, Int.reduceLE, Int.reduceLT, Int.reducePow, Int.reduceToNat, Nat.reduceLT, Nat.reduceLeDiff, Int.reduceNeg, Nat.reducePow, bindT_one, s_ii, s_ai, s_oi, s_aa, s_oa, slT, slL])
def caseF (gd gw : Nat) : Fn := ⟨2, 7, false,
   [.set 2 (.cal false gd (.cons (.nam 0) (.cons (.cst (.int 6)) .nil))),
    .set 3 (.lst true (.cons (.lst true .nil) (.cons (.lst true .nil) (.cons (.lst true .nil) .nil)))),
    .for_ (.one 4) (.rng (.bin false .shl (.cst (.int 1)) (.nam 1)))
     [.set 5 (.idx (.lst false (.cons (.bin false .add (.cst (.int 1)) (.cal false gd (.cons (.nam 0) (.cons (.cst (.int 2)) .nil)))) (.cons (.idx (.lst false (.cons (.cst (.int 0)) (.cons (.cst (.int 0)) (.cons (.cst (.int 0)) (.cons (.cst (.int 0)) (.cons (.cst (.int 1)) (.cons (.cst (.int 2)) .nil))))))) (.cal false gd (.cons (.nam 0) (.cons (.cst (.int 6)) .nil)))) (.cons (.cal false gd (.cons (.nam 0) (.cons (.cst (.int 3)) .nil))) .nil)))) (.blt false .min (.cons (.nam 2) (.cons (.cst (.int 2)) .nil)))),
      .exp (.mth false .append (.idx (.nam 3) (.nam 5)) (.cons (.cal false gw (.cons (.nam 1) (.cons (.nam 4) .nil))) .nil))],
    .for_ (.one 5) (.val (.tup (.cons (.cst (.int 1)) (.cons (.cst (.int 2)) .nil))))
     [.ifs (.cmp .eq (.idx (.nam 3) (.nam 5)) (.lst false .nil))
       [.set 6 (.idx (.lst true (.cons (.idx (.nam 3) (.bin false .sub (.cst (.int 3)) (.nam 5))) (.cons (.idx (.nam 3) (.cst (.int 0))) .nil))) (.blt false .int (.cons (.cmp .ge (.blt false .len (.cons (.idx (.nam 3) (.cst (.int 0))) .nil)) (.blt false .len (.cons (.idx (.nam 3) (.bin false .sub (.cst (.int 3)) (.nam 5))) .nil))) .nil))),
        .exp (.mth false .append (.idx (.nam 3) (.nam 5)) (.cons (.mth false .pop (.nam 6) (.cons (.cal false gd (.cons (.nam 0) (.cons (.blt false .len (.cons (.nam 6) .nil)) .nil))) .nil)) .nil))]
       []],
    .ret (.tup (.cons (.nam 1) (.cons (.blt false .tuple (.cons (.idx (.nam 3) (.cst (.int 1))) .nil)) (.cons (.blt false .tuple (.cons (.idx (.nam 3) (.cst (.int 2))) .nil)) .nil))))]⟩
def missedF (g : Nat) : Fn := ⟨2, 3, false,
   [.for_ (.one 2) (.val (.idx (.nam 0) (.cst (.int 1))))
     [.ifs (.cmp .eq (.cal false g (.cons (.nam 1) (.cons (.nam 2) .nil))) (.cst (.int 0)))
       [.ret (.tup (.cons (.cst (.str [121, 101, 115])) (.cons (.nam 2) .nil)))]
       []],
    .for_ (.one 2) (.val (.idx (.nam 0) (.cst (.int 2))))
     [.ifs (.cmp .eq (.cal false g (.cons (.nam 1) (.cons (.nam 2) .nil))) (.cst (.int 1)))
       [.ret (.tup (.cons (.cst (.str [110, 111])) (.cons (.nam 2) .nil)))]
       []],
    .ret (.cst .non)]⟩
def partsF (g : Nat) : Fn := ⟨2, 2, false,
   [.ret (.cmp .isN (.cal false g (.cons (.nam 0) (.cons (.nam 1) .nil))) (.cst .non))]⟩

theorem get_pre {pre h : Hea} {a : Nat} (l : a < h.length) : get (pre ++ h) a = get h a := by
  induction pre with
  | nil => rfl
  | cons x pre ih => rw [List.cons_append, get_und (by rw [List.length_append]; omega), ih]
theorem put_pre {pre h : Hea} {a : Nat} {c : Cell} (l : a < h.length) : put (pre ++ h) a c = pre ++ put h a c := by
  induction pre with
  | nil => rfl
  | cons x pre ih => rw [List.cons_append, put_und (by rw [List.length_append]; omega), ih]; rfl
theorem trunc_pre {pre h : Hea} {a : Nat} (l : a ≤ h.length) : trunc a (pre ++ h) = trunc a h := by
  induction pre with
  | nil => rfl
  | cons x pre ih => rw [List.cons_append, trunc_cons (by rw [List.length_append]; omega), ih]
theorem DPen.pre {ns : List Int} {pre h : Hea} {a : Nat} (p : DPen ns h a) : DPen ns (pre ++ h) a := by
  obtain ⟨x, y, g⟩ := p
  exact ⟨x, y, by rw [get_pre (get_lt g)]; exact g⟩
theorem DrawOk.callP {C : CT} {g : Nat} {ns : List Int} (P : DrawOk C g ns) (pre : Hea) {a n : Nat} {many : Int} {h : Hea} {Q : D → Hea → Prop} {E : Xc → Hea → Prop} (p : DPen ns h a) (h0 : 0 < many) (h1 : many < 1073741824)
    (k : ∀ (i : Int) (h' : Hea), 0 ≤ i → i < many → (∃ c, h' = put h a c) → DPen ns h' a → Q (.int i) (pre ++ h')) : WP (melt n (C g [.ref a, .int many] (pre ++ h))) Q E := by
  have la := p.lt
  refine P.call (h := pre ++ h) p.pre h0 h1 fun i h' i0 i1 ⟨c, e⟩ ⟨x, y, g'⟩ => ?_
  rw [put_pre la] at e
  subst e
  rw [get_pre (by rw [put_len]; exact la)] at g'
  exact k i _ i0 i1 ⟨c, rfl⟩ ⟨x, y, g'⟩
theorem draw_at {Fs : List Fn} {g : Nat} {ns : List Int} (e : Fs[g]? = some drawF) {N : Nat} (hN : 1 ≤ N) : DrawOk (run Fs N) g ns := by
  obtain ⟨k, rfl⟩ : ∃ k, N = k + 1 := ⟨N - 1, by omega⟩
  exact .mk e
theorem popi_ok {h : Hea} {a : Nat} {ds : List D} {i : Int} {x : D} (g : get h a = some (.lst ds)) (h0 : 0 ≤ i) (h1 : i < 1073741824) (l : i < ds.length) (e : ds[i.toNat]? = some x) : mthH .pop h (.ref a) [.int i] = .ok x (put h a (.lst (ds.eraseIdx i.toNat))) := by
  unfold mthH
  dsimp only
  unfold popH
  dsimp only
  unfold onL
  simp only [g, plc_int h0 l]
  rw [if_pos ⟨by omega, by omega⟩]
  simp only [Option.bind_some, e, Option.map_some]
theorem eq_nil {h : Hea} {w : Nat} {ds : List D} (g : MP.get h w = some (.lst ds)) (h1 : nbs ds = true) (h2 : PyData.depthAll (toPys ds) ≤ 30) : cop .eq h (.ref w) (.lst []) = some (.bl ds.isEmpty) := by
  have n1 : nb (.lst ds) = true := by unfold nb; exact h1
  have n2 : nb (.lst []) = true := by unfold nb nbs; rfl
  rw [cop_eq_of (rsv_ref g h1 (by omega)) (rsv_nb n2) n1 n2 (.inl (by rw [dep_lst]; omega))]
  have := eqv_nb n1 n2
  cases ds with
  | nil => rw [this.mpr rfl]; rfl
  | cons d ds =>
    have : eqv (.lst (d :: ds)) (.lst []) = false := by
      rw [Bool.eq_false_iff]
      intro z
      have := this.mp z
      simp at this
    rw [this]; rfl
/-! ### three lists of words -/
def wd (p : Nat) (L : List Nat) : List D := L.map fun n => dI (bits p n)
theorem wd_len {p : Nat} {L : List Nat} : (wd p L).length = L.length := by unfold wd; rw [List.length_map]
theorem wd_nbs {p : Nat} {L : List Nat} : nbs (wd p L) = true := nbs_all fun d hd => by obtain ⟨x, _, rfl⟩ := List.mem_map.mp hd; exact nb_dI
theorem wd_dep {p : Nat} {L : List Nat} : PyData.depthAll (toPys (wd p L)) ≤ 1 := deps_all fun d hd => by obtain ⟨x, _, rfl⟩ := List.mem_map.mp hd; rw [dep_dI]; omega
theorem wd_nb {p : Nat} {L : List Nat} : nb (.tup (wd p L)) = true := by unfold nb; exact wd_nbs
theorem wd_bel {n p : Nat} {L : List Nat} : belows n (wd p L) = true := belows_nb wd_nbs
def c3 (n p : Nat) (S : Nat → List Nat) (h : Hea) : Hea := .lst [.ref n, .ref (n + 1), .ref (n + 2)] :: .lst (wd p (S 2)) :: .lst (wd p (S 1)) :: .lst (wd p (S 0)) :: h
def upd (S : Nat → List Nat) (j : Nat) (L : List Nat) : Nat → List Nat := fun i => if i = j then L else S i
theorem c3_len {n p : Nat} {S : Nat → List Nat} {h : Hea} : (c3 n p S h).length = h.length + 4 := rfl
theorem get_c3 {n p j : Nat} {S : Nat → List Nat} {h : Hea} (e : h.length = n) (hj : j < 3) : get (c3 n p S h) (n + j) = some (.lst (wd p (S j))) := by
  subst e
  unfold c3
  have : j = 0 ∨ j = 1 ∨ j = 2 := by omega
  rcases this with rfl | rfl | rfl
  · rw [Nat.add_zero, get_und (by simp only [List.length_cons]; omega), get_und (by simp only [List.length_cons]; omega), get_und (by simp only [List.length_cons]; omega)]; exact get_top
  · rw [get_und (by simp only [List.length_cons]; omega), get_und (by simp only [List.length_cons]; omega)]; exact get_self
  · rw [get_und (by simp only [List.length_cons]; omega)]; exact get_self
theorem put_c3 {n p j : Nat} {S : Nat → List Nat} {h : Hea} {L : List Nat} (e : h.length = n) (hj : j < 3) : put (c3 n p S h) (n + j) (.lst (wd p L)) = c3 n p (upd S j L) h := by
  subst e
  unfold c3
  have : j = 0 ∨ j = 1 ∨ j = 2 := by omega
  rcases this with rfl | rfl | rfl
  · show put _ h.length _ = _
    rw [put_und (by simp only [List.length_cons]; omega), put_und (by simp only [List.length_cons]; omega), put_und (by simp only [List.length_cons]; omega), put_top]; rfl
  · rw [put_und (by simp only [List.length_cons]; omega), put_und (by simp only [List.length_cons]; omega), show h.length + 1 = (Cell.lst (wd p (S 0)) :: h).length from rfl, put_top]; rfl
  · rw [put_und (by simp only [List.length_cons]; omega), show h.length + 2 = (Cell.lst (wd p (S 1)) :: .lst (wd p (S 0)) :: h).length from rfl, put_top]; rfl
theorem get_c3o {n p : Nat} {S : Nat → List Nat} {h : Hea} (e : h.length = n) : get (c3 n p S h) (n + 3) = some (.lst [.ref n, .ref (n + 1), .ref (n + 2)]) := by
  subst e; exact get_self
theorem ix_c3 {n p j : Nat} {S : Nat → List Nat} {pre h : Hea} (e : h.length = n) (hj : j < 3) : ixH (pre ++ c3 n p S h) (.ref (n + 3)) (.int (j : Int)) = some (.ref (n + j)) := by
  rw [ix_ref (ds := [.ref n, .ref (n + 1), .ref (n + 2)]) (k := j) (by rw [get_pre (by rw [c3_len]; omega)]; exact get_c3o e) (plc_pos (b := 3) hj)]
  have : j = 0 ∨ j = 1 ∨ j = 2 := by omega
  rcases this with rfl | rfl | rfl <;> rfl
theorem c3_app {n p : Nat} {S : Nat → List Nat} {pre h : Hea} : pre ++ c3 n p S h = (pre ++ c3 n p S []) ++ h := by rw [List.append_assoc]; rfl
theorem c3_put {n p a : Nat} {S : Nat → List Nat} {h : Hea} {c : Cell} (l : a < h.length) : put (c3 n p S h) a c = c3 n p S (put h a c) := by
  unfold c3
  rw [put_und (by simp; omega), put_und (by simp; omega), put_und (by simp; omega), put_und (by omega)]
theorem trunc_c3 {n p : Nat} {S : Nat → List Nat} {pre h h0 : Hea} (e : h.length = h0.length) : trunc h0.length (pre ++ c3 n p S h) = h := by
  rw [trunc_pre (by rw [c3_len]; omega)]
  unfold c3
  rw [trunc_cons (by simp; omega), trunc_cons (by simp; omega), trunc_cons (by simp; omega), trunc_cons (by omega), trunc_eq e]
def all3 (S : Nat → List Nat) : List Nat := S 0 ++ (S 1 ++ S 2)
theorem erase_map {α β : Type} {f : α → β} : ∀ {L : List α} {i : Nat}, (L.map f).eraseIdx i = (L.eraseIdx i).map f
  | [], i => by simp
  | y :: L, 0 => by simp
  | y :: L, i + 1 => by rw [List.map_cons, List.eraseIdx_cons_succ, List.eraseIdx_cons_succ, erase_map, List.map_cons]
theorem push_perm {S : Nat → List Nat} {j x : Nat} (hj : j < 3) : (all3 (upd S j (S j ++ [x]))).Perm (x :: all3 S) := by
  have mid : ∀ (A B : List Nat), (A ++ [x] ++ B).Perm (x :: (A ++ B)) := fun A B => by
    rw [List.append_assoc]; exact List.perm_middle
  unfold all3 upd
  have : j = 0 ∨ j = 1 ∨ j = 2 := by omega
  rcases this with rfl | rfl | rfl
  · show ((S 0 ++ [x]) ++ (S 1 ++ S 2)).Perm _
    exact mid _ _
  · show (S 0 ++ ((S 1 ++ [x]) ++ S 2)).Perm _
    exact (List.Perm.append_left _ (mid _ _)).trans List.perm_middle
  · show (S 0 ++ (S 1 ++ (S 2 ++ [x]))).Perm _
    refine (List.Perm.append_left _ (List.Perm.append_left _ (List.perm_append_singleton x _))).trans ?_
    rw [← List.append_assoc, ← List.append_assoc]
    exact List.perm_middle
theorem erase_perm : ∀ {L : List Nat} {i x : Nat}, L[i]? = some x → L.Perm (x :: L.eraseIdx i)
  | [], i, x, h => by simp at h
  | y :: L, 0, x, h => by simp at h; subst h; exact .refl _
  | y :: L, i + 1, x, h => by
    simp at h
    have := erase_perm h
    rw [List.eraseIdx_cons_succ]
    exact (List.Perm.cons y this).trans (.swap x y _)
theorem pull_perm {S : Nat → List Nat} {j i x : Nat} (hj : j < 3) (h : (S j)[i]? = some x) : (all3 S).Perm (x :: all3 (upd S j ((S j).eraseIdx i))) := by
  have e := erase_perm h
  unfold all3 upd
  have : j = 0 ∨ j = 1 ∨ j = 2 := by omega
  rcases this with rfl | rfl | rfl
  · show (S 0 ++ (S 1 ++ S 2)).Perm (x :: ((S 0).eraseIdx i ++ (S 1 ++ S 2)))
    exact List.Perm.append_right _ e
  · show (S 0 ++ (S 1 ++ S 2)).Perm (x :: (S 0 ++ ((S 1).eraseIdx i ++ S 2)))
    exact (List.Perm.append_left _ (List.Perm.append_right _ e)).trans List.perm_middle
  · show (S 0 ++ (S 1 ++ S 2)).Perm (x :: (S 0 ++ (S 1 ++ (S 2).eraseIdx i)))
    refine (List.Perm.append_left _ (List.Perm.append_left _ e)).trans ?_
    rw [← List.append_assoc, ← List.append_assoc]
    exact List.perm_middle
theorem upd_at {S : Nat → List Nat} {j : Nat} {L : List Nat} : upd S j L j = L := by unfold upd; rw [if_pos rfl]
theorem upd_ne {S : Nat → List Nat} {i j : Nat} {L : List Nat} (n : i ≠ j) : upd S j L i = S i := by unfold upd; rw [if_neg n]
structure Srt (S : Nat → List Nat) (k : Nat) : Prop where
  nd : (all3 S).Nodup
  lt : ∀ x ∈ all3 S, x < k
  ln : (all3 S).length = k
theorem all3_len {S : Nat → List Nat} : (all3 S).length = (S 0).length + (S 1).length + (S 2).length := by unfold all3; rw [List.length_append, List.length_append]; omega
theorem Srt.push {S : Nat → List Nat} {k j : Nat} (h : Srt S k) (hj : j < 3) : Srt (upd S j (S j ++ [k])) (k + 1) := by
  have e := push_perm (S := S) (x := k) hj
  refine ⟨?_, ?_, ?_⟩
  · rw [e.nodup_iff, List.nodup_cons]
    exact ⟨fun z => by have := h.lt _ z; omega, h.nd⟩
  · intro x hx
    rw [e.mem_iff] at hx
    rcases List.mem_cons.mp hx with rfl | hx
    · omega
    · have := h.lt x hx; omega
  · rw [e.length_eq, List.length_cons, h.ln]
theorem Srt.move {S : Nat → List Nat} {k i j c x : Nat} (h : Srt S k) (hi : i < 3) (hj : j < 3) (ij : i ≠ j) (hx : (S i)[c]? = some x) : Srt (upd (upd S i ((S i).eraseIdx c)) j (S j ++ [x])) k := by
  have e1 := pull_perm hi hx
  have e2 := push_perm (S := upd S i ((S i).eraseIdx c)) (x := x) hj
  rw [upd_ne (fun z => ij z.symm)] at e2
  have e := e1.trans e2.symm
  exact ⟨e.nodup_iff.mp h.nd, fun y hy => h.lt y (e.mem_iff.mpr hy), by rw [← e.length_eq]; exact h.ln⟩
theorem idx6 {h : Hea} {i : Int} (h0 : 0 ≤ i) (h1 : i < 6) : ∃ v : Int, ixH h (.lst [.int 0, .int 0, .int 0, .int 0, .int 1, .int 2]) (.int i) = some (.int v) ∧ 0 ≤ v ∧ v < 3 := by
  have : i = 0 ∨ i = 1 ∨ i = 2 ∨ i = 3 ∨ i = 4 ∨ i = 5 := by omega
  rcases this with rfl | rfl | rfl | rfl | rfl | rfl
  · exact ⟨0, rfl, by omega, by omega⟩
  · exact ⟨0, rfl, by omega, by omega⟩
  · exact ⟨0, rfl, by omega, by omega⟩
  · exact ⟨0, rfl, by omega, by omega⟩
  · exact ⟨1, rfl, by omega, by omega⟩
  · exact ⟨2, rfl, by omega, by omega⟩
/-- a case of words by numbers -/
structure Cas (p : Nat) (Y N : List Nat) : Prop where
  y0 : Y ≠ []
  n0 : N ≠ []
  yl : ∀ x ∈ Y, x < 2 ^ p
  nl : ∀ x ∈ N, x < 2 ^ p
  dj : ∀ x ∈ Y, x ∉ N
  ny : Y.Nodup
  nn : N.Nodup
  yle : Y.length ≤ 2 ^ p
  nle : N.length ≤ 2 ^ p
def casD (p : Nat) (Y N : List Nat) : D := .tup [.int p, .tup (wd p Y), .tup (wd p N)]
theorem casD_nb {p : Nat} {Y N : List Nat} : nb (casD p Y N) = true := nb_cons3 nb_int wd_nb wd_nb
section
variable {Fs : List Fn} {g : Nat}
theorem case_at {gd gw : Nat} (e : Fs[g]? = some (caseF gd gw)) (ed : Fs[gd]? = some drawF) (ew : Fs[gw]? = some wordByF) {ns : List Int} {a p N : Nat} (hp1 : 1 ≤ p) (hp : p ≤ 5) (hN : 2 ≤ N) {h : Hea} (pen : DPen ns h a) :
    WP (run Fs N g [.ref a, .int p] h) (fun d h' => ∃ Y N, d = casD p Y N ∧ Cas p Y N ∧ (∃ c, h' = put h a c) ∧ DPen ns h' a) NX := by
  have hz : 2 ^ p ≤ 2 ^ 5 := Nat.pow_le_pow_right (by omega) hp
  have hz2 : 2 ^ 1 ≤ 2 ^ p := Nat.pow_le_pow_right (by omega) hp1
  obtain ⟨k, rfl⟩ : ∃ k, N = (k + 1) + 1 := ⟨N - 2, by omega⟩
  have P : DrawOk (run Fs (k + 1)) gd ns := draw_at ed (by omega)
  rw [run_at e]
  refine WP_exF rfl ?_
  simp only [caseF]
  rw [B_cons]
  trivial
  refine P.call pen (by omega) (by omega) fun w h1 w0 w1 e1 p1 => ?_
  trivial
  have l1 := puts2_len e1
  refine B_seq (fun ρ h' => ρ = [some (.ref a), some (.int p), some (.int w), some (.ref (h.length + 3)), none, none, none] ∧ h' = c3 h.length p (fun _ => []) h1) ?_ ?_
  · trivial
    rw [← l1]
    exact ⟨SL_3, rfl, rfl⟩
  rintro ρ h2 ⟨rfl, rfl⟩
  refine B_seq (fun ρ h' => (∃ x y, ρ = [some (.ref a), some (.int p), some (.int w), some (.ref (h.length + 3)), x, y, none]) ∧ ∃ S hh, h' = c3 h.length p S hh ∧ Srt S (2 ^ p) ∧ (∃ c, hh = put h a c) ∧ DPen ns hh a) ?_ ?_
  · trivial
    rw [Int.toNat_natCast, pow2_cast]
    refine ⟨by omega, ⟨R62_0, R62_nat (by omega)⟩, ?_⟩
    refine frL_rng (fun n ρ h' => (∃ x y, ρ = [some (.ref a), some (.int p), some (.int w), some (.ref (h.length + 3)), x, y, none]) ∧ ∃ S hh, h' = c3 h.length p S hh ∧ Srt S n ∧ (∃ c, hh = put h a c) ∧ DPen ns hh a) ⟨⟨_, _, rfl⟩, _, _, rfl, ⟨by simp [all3], fun x hx => by simp [all3] at hx, by simp [all3]⟩, e1, p1⟩ ?_ ?_
    · rintro n hn ρ h' ⟨⟨x, y, rfl⟩, S, hh, rfl, hS, ee, pn⟩
      rw [B_cons, Int.zero_add]
      trivial
      refine P.callP (.lst [.ref h.length, .ref (h.length + 1), .ref (h.length + 2)] :: .lst (wd p (S 2)) :: .lst (wd p (S 1)) :: .lst (wd p (S 0)) :: []) pn (by omega) (by omega) fun x1 h3 a1 b1 e3 p3 => ?_
      trivial
      refine ⟨by unfold SL; omega, ?_⟩
      refine P.callP (.lst [.ref h.length, .ref (h.length + 1), .ref (h.length + 2)] :: .lst (wd p (S 2)) :: .lst (wd p (S 1)) :: .lst (wd p (S 0)) :: []) p3 (by omega) (by omega) fun x2 h4 a2 b2 e4 p4 => ?_
      trivial
      obtain ⟨v6, ev6, hv0, hv1⟩ := idx6 (h := .lst [.ref h.length, .ref (h.length + 1), .ref (h.length + 2)] :: .lst (wd p (S 2)) :: .lst (wd p (S 1)) :: .lst (wd p (S 0)) :: h4) a2 b2
      rw [ev6]
      trivial
      refine P.callP (.lst [.ref h.length, .ref (h.length + 1), .ref (h.length + 2)] :: .lst (wd p (S 2)) :: .lst (wd p (S 1)) :: .lst (wd p (S 0)) :: []) p4 (by omega) (by omega) fun x3 h5 a3 b3 e5 p5 => ?_
      trivial
      refine ⟨SL_3, ?_⟩
      rw [show Cell.lst [.ref h.length, .ref (h.length + 1), .ref (h.length + 2)] :: .lst (wd p (S 2)) :: .lst (wd p (S 1)) :: .lst (wd p (S 0)) :: h5 = c3 h.length p S h5 from rfl]
      obtain ⟨v, ev, hv⟩ := idx3 (h := c3 h.length p S h5) (x := .int (1 + x1)) (y := .int v6) (z := .int x3) (i := if (2 : Int) < w then 2 else w) (by split <;> omega) (by split <;> omega)
      obtain ⟨t, rfl, ht⟩ : ∃ t : Nat, v = .int t ∧ t < 3 := by
        rcases hv with rfl | rfl | rfl
        · exact ⟨(1 + x1).toNat, by rw [Int.toNat_of_nonneg (by omega)], by omega⟩
        · exact ⟨v6.toNat, by rw [Int.toNat_of_nonneg (by omega)], by omega⟩
        · exact ⟨x3.toNat, by rw [Int.toNat_of_nonneg (by omega)], by omega⟩
      rw [ev]
      trivial
      have ee5 := puts2 (puts2 (puts2 ee e3) e4) e5
      have l5 := puts2_len ee5
      rw [B_cons]
      trivial
      rw [show ixH (c3 h.length p S h5) (.ref (h.length + 3)) (.int (t : Int)) = some (.ref (h.length + t)) from ix_c3 (pre := []) l5 ht]
      trivial
      have gt := get_c3 (n := h.length) (p := p) (S := S) l5 ht
      refine ⟨rcv_of gt (fun z => nomatch z), ?_⟩
      refine W_meltV ((word_run ew k (p := p) (n := n) (by omega)).nx fun d h' q => ?_)
      obtain ⟨rfl, rfl⟩ := q
      refine ⟨nb_ref nb_dI, ?_⟩
      trivial
      have hlS : (S t).length ≤ n := by
        have h1 := hS.ln
        rw [all3_len] at h1
        have : t = 0 ∨ t = 1 ∨ t = 2 := by omega
        rcases this with rfl | rfl | rfl <;> omega
      rw [app_ok gt (by rw [wd_len]; unfold SL; omega) below_dI, show wd p (S t) ++ [dI (bits p n)] = wd p (S t ++ [n]) by unfold wd; rw [List.map_append]; rfl, put_c3 l5 ht]
      trivial
      exact ⟨⟨_, _, rfl⟩, _, _, rfl, hS.push ht, ee5, p5⟩
    · rintro ρ h' ⟨⟨x, y, rfl⟩, S, hh, rfl, hS, ee, pn⟩
      rw [show (((2 ^ p : Nat) : Int) - 0).toNat = 2 ^ p by omega] at hS
      exact ⟨⟨_, _, rfl⟩, S, hh, rfl, hS, ee, pn⟩
  rintro ρ h2 ⟨⟨x, y, rfl⟩, S, hh, rfl, hS, ee, pn⟩
  refine B_seq (fun ρ h' => (∃ x y z, ρ = [some (.ref a), some (.int p), some (.int w), some (.ref (h.length + 3)), x, y, z]) ∧ ∃ pre S hh, h' = pre ++ c3 h.length p S hh ∧ Srt S (2 ^ p) ∧ (∃ c, hh = put h a c) ∧ DPen ns hh a ∧ S 1 ≠ [] ∧ S 2 ≠ []) ?_ ?_
  · trivial
    refine ⟨by unfold SL; omega, ?_⟩
    refine frL_val (ds := [.int 1, .int 2]) (fun i ρ h' => (∃ x y z, ρ = [some (.ref a), some (.int p), some (.int w), some (.ref (h.length + 3)), x, y, z]) ∧ ∃ pre S hh, h' = pre ++ c3 h.length p S hh ∧ Srt S (2 ^ p) ∧ (∃ c, hh = put h a c) ∧ DPen ns hh a ∧ (1 ≤ i → S 1 ≠ []) ∧ (2 ≤ i → S 2 ≠ [])) ⟨⟨_, _, _, rfl⟩, [], S, hh, rfl, hS, ee, pn, fun z => absurd z (by omega), fun z => absurd z (by omega)⟩ ?_ ?_
    · rintro i hi ρ h' ⟨⟨x, y, z, rfl⟩, pre, S, hh, rfl, hS, ee, pn, s1, s2⟩
      have hi2 : i < 2 := hi
      obtain ⟨t, ht, et⟩ : ∃ t : Nat, t = i + 1 ∧ [D.int 1, .int 2][i] = .int (t : Int) := by
        have : i = 0 ∨ i = 1 := by omega
        rcases this with rfl | rfl
        · exact ⟨1, rfl, rfl⟩
        · exact ⟨2, rfl, rfl⟩
      rw [et, B_cons]
      have l5 := puts2_len ee
      have ht3 : t < 3 := by omega
      have gg : ∀ j < 3, MP.get (pre ++ c3 h.length p S hh) (h.length + j) = some (.lst (wd p (S j))) := fun j hj => by
        rw [get_pre (by rw [c3_len]; omega)]; exact get_c3 l5 hj
      have ixx : ∀ j : Nat, j < 3 → ixH (pre ++ c3 h.length p S hh) (.ref (h.length + 3)) (.int (j : Int)) = some (.ref (h.length + j)) := fun j hj => ix_c3 l5 hj
      trivial
      rw [ixx t ht3]
      trivial
      rw [eq_nil (gg t ht3) wd_nbs (by have := wd_dep (p := p) (L := S t); omega)]
      trivial
      refine Ite.mk (fun hc => ?_) (fun hc => ?_)
      · have st : S t = [] := by
          unfold wd at hc
          rw [List.isEmpty_iff, List.map_eq_nil_iff] at hc
          exact hc
        have hln := hS.ln
        rw [all3_len] at hln
        have e3t : (3 : Int) - (t : Int) = ((3 - t : Nat) : Int) := by omega
        rw [B_cons]
        trivial
        rw [e3t, ixx (3 - t) (by omega)]
        trivial
        rw [show (D.int 0) = .int ((0 : Nat) : Int) from rfl, ixx 0 (by omega)]
        trivial
        refine ⟨by unfold SL; omega, ?_⟩
        generalize hct : Cell.lst [.ref (h.length + (3 - t)), .ref (h.length + 0)] = ct
        have gct : MP.get (ct :: (pre ++ c3 h.length p S hh)) (pre ++ c3 h.length p S hh).length = some (.lst [.ref (h.length + (3 - t)), .ref (h.length + 0)]) := by rw [← hct]; exact get_top
        obtain ⟨pre', hpre⟩ : ∃ pre', pre' = ct :: pre := ⟨_, rfl⟩
        have ec : ct :: (pre ++ c3 h.length p S hh) = pre' ++ c3 h.length p S hh := by rw [hpre]; rfl
        rw [ec] at gct ⊢
        have gg2 : ∀ {S : Nat → List Nat} {hh : Hea}, hh.length = h.length → ∀ j < 3, MP.get (pre' ++ c3 h.length p S hh) (h.length + j) = some (.lst (wd p (S j))) := fun l5 j hj => by
          rw [get_pre (by rw [c3_len]; omega)]; exact get_c3 l5 hj
        have ixx2 : ∀ j : Nat, j < 3 → ixH (pre' ++ c3 h.length p S hh) (.ref (h.length + 3)) (.int (j : Int)) = some (.ref (h.length + j)) := fun j hj => ix_c3 l5 hj
        rw [show ixH (pre' ++ c3 h.length p S hh) (.ref (h.length + 3)) (.int 0) = some (.ref (h.length + 0)) from ixx2 0 (by omega)]
        trivial
        rw [bl_len_ref (gg2 l5 0 (by omega))]
        trivial
        rw [e3t, ixx2 (3 - t) (by omega)]
        trivial
        rw [bl_len_ref (gg2 l5 (3 - t) (by omega))]
        trivial
        rw [wd_len, wd_len]
        obtain ⟨r, hr, er⟩ : ∃ r : Nat, (r = 0 ∧ (S (3 - t)).length ≤ (S 0).length ∨ r = 3 - t ∧ (S 0).length < (S (3 - t)).length) ∧ ixH (pre' ++ c3 h.length p S hh) (.ref (pre ++ c3 h.length p S hh).length) (.int (if decide (((S (3 - t)).length : Int) ≤ (S 0).length) = true then 1 else 0)) = some (.ref (h.length + r)) := by
          by_cases q : (S (3 - t)).length ≤ (S 0).length
          · refine ⟨0, .inl ⟨rfl, q⟩, ?_⟩
            rw [decide_eq_true (show ((S (3 - t)).length : Int) ≤ (S 0).length by omega), if_pos rfl, ix_ref (k := 1) gct rfl]; rfl
          · refine ⟨3 - t, .inr ⟨rfl, by omega⟩, ?_⟩
            rw [decide_eq_false (show ¬ ((S (3 - t)).length : Int) ≤ (S 0).length by omega), if_neg (by simp), ix_ref (k := 0) gct rfl]; rfl
        have hr3 : r < 3 := by rcases hr with ⟨rfl, _⟩ | ⟨rfl, _⟩ <;> omega
        have hrt : r ≠ t := by rcases hr with ⟨rfl, _⟩ | ⟨rfl, _⟩ <;> omega
        have tt : t = 1 ∨ t = 2 := by omega
        have hl0 : (S t).length = 0 := by rw [st]; rfl
        have hrl : 1 ≤ (S r).length ∧ (t = 2 → r = 1 → 2 ≤ (S 1).length) ∧ (S r).length ≤ 2 ^ p := by
          rcases tt with rfl | rfl <;> rcases hr with ⟨rfl, q⟩ | ⟨rfl, q⟩ <;> simp only [Nat.reduceSub] at q ⊢ <;> refine ⟨by omega, fun z1 z2 => by omega, by omega⟩
        rw [er]
        trivial
        rw [B_cons]
        trivial
        rw [ixx2 t ht3]
        trivial
        refine ⟨rcv_of (gg2 l5 t ht3) (fun z => nomatch z), rcv_of (gg2 l5 r hr3) (fun z => nomatch z), ?_⟩
        rw [bl_len_ref (gg2 l5 r hr3)]
        trivial
        rw [wd_len, c3_app]
        refine P.callP (pre' ++ c3 h.length p S []) pn (by omega) (by omega) fun u h6 u0 u1 e6 p6 => ?_
        rw [← c3_app]
        trivial
        have ee6 := puts2 ee e6
        have l6 := puts2_len ee6
        have lu : u.toNat < (S r).length := by omega
        have hx : (S r)[u.toNat]? = some (S r)[u.toNat] := List.getElem?_eq_getElem lu
        generalize (S r)[u.toNat] = xx at hx
        rw [popi_ok (x := dI (bits p xx)) (gg2 l6 r hr3) u0 (by omega) (by rw [wd_len]; omega) (by unfold wd; rw [List.getElem?_map, hx]; rfl), show (wd p (S r)).eraseIdx u.toNat = wd p ((S r).eraseIdx u.toNat) by unfold wd; rw [erase_map], put_pre (by rw [c3_len]; omega), put_c3 l6 hr3]
        trivial
        have gq := gg2 (S := upd S r ((S r).eraseIdx u.toNat)) l6 t ht3
        rw [upd_ne (fun z => hrt z.symm), st] at gq
        rw [app_ok gq (by unfold SL wd; simp) below_dI, show wd p [] ++ [dI (bits p xx)] = wd p (S t ++ [xx]) by rw [st]; rfl, put_pre (by rw [c3_len]; omega), put_c3 l6 ht3]
        trivial
        refine ⟨⟨_, _, _, rfl⟩, pre', _, _, rfl, hS.move hr3 ht3 hrt hx, ee6, p6, ?_, ?_⟩
        · intro _
          rcases tt with rfl | rfl
          · rw [upd_at]; simp
          · rw [upd_ne (by omega)]
            rcases hr with ⟨rfl, _⟩ | ⟨rfl, _⟩
            · rw [upd_ne (by omega)]; exact s1 (by omega)
            · rw [show 3 - 2 = 1 from rfl, upd_at]
              intro z
              have := congrArg List.length z
              have h2 := hrl.2.1 rfl rfl
              rw [List.length_eraseIdx] at this
              simp only [Nat.reduceSub] at lu this
              rw [if_pos lu] at this
              simp at this
              omega
        · intro q
          have : t = 2 := by omega
          subst this
          rw [upd_at]; simp
      · trivial
        have st : S t ≠ [] := fun z => by rw [z] at hc; simp [wd] at hc
        refine ⟨⟨_, _, _, rfl⟩, pre, S, hh, rfl, hS, ee, pn, fun _ => ?_, fun q => ?_⟩
        · have tt : t = 1 ∨ t = 2 := by omega
          rcases tt with rfl | rfl
          · exact st
          · exact s1 (by omega)
        · have : t = 2 := by omega
          subst this
          exact st
    · rintro ρ h' ⟨⟨x, y, z, rfl⟩, pre, S, hh, rfl, hS, ee, pn, s1, s2⟩
      exact ⟨⟨_, _, _, rfl⟩, pre, S, hh, rfl, hS, ee, pn, s1 (by simp), s2 (by simp)⟩
  · rintro ρ h' ⟨⟨x, y, z, rfl⟩, pre, S, hh, rfl, hS, ee, pn, s1, s2⟩
    have l5 := puts2_len ee
    have gg : ∀ j < 3, MP.get (pre ++ c3 h.length p S hh) (h.length + j) = some (.lst (wd p (S j))) := fun j hj => by
      rw [get_pre (by rw [c3_len]; omega)]; exact get_c3 l5 hj
    have ixx : ∀ j : Nat, j < 3 → ixH (pre ++ c3 h.length p S hh) (.ref (h.length + 3)) (.int (j : Int)) = some (.ref (h.length + j)) := fun j hj => ix_c3 l5 hj
    rw [B_cons]
    trivial
    rw [show ixH (pre ++ c3 h.length p S hh) (.ref (h.length + 3)) (.int 1) = some (.ref (h.length + 1)) from ixx 1 (by omega)]
    trivial
    rw [bl_tuple_ref (gg 1 (by omega))]
    trivial
    rw [show ixH (pre ++ c3 h.length p S hh) (.ref (h.length + 3)) (.int 2) = some (.ref (h.length + 2)) from ixx 2 (by omega)]
    trivial
    rw [bl_tuple_ref (gg 2 (by omega))]
    trivial
    refine ⟨SL_3, ?_⟩
    rw [leave_tup (by simp [wd_bel]), trunc_c3 l5]
    trivial
    have hln := hS.ln
    rw [all3_len] at hln
    have nd := hS.nd
    unfold all3 at nd
    rw [List.nodup_append] at nd
    have nd2 := nd.2.1
    rw [List.nodup_append] at nd2
    have hlt := hS.lt
    unfold all3 at hlt
    exact ⟨S 1, S 2, rfl, ⟨s1, s2, fun x hx => hlt x (by simp [hx]), fun x hx => hlt x (by simp [hx]), fun x hx hx2 => nd2.2.2 x hx x hx2 rfl, nd2.1, nd2.2.1, by omega, by omega⟩, ee, pn⟩
/-! ### what a saying misses -/
def sYes : D := .str [121, 101, 115]
def sNo : D := .str [110, 111]
def missD (p : Nat) (Y N : List Nat) (s : Sg) : D :=
  match Y.find? fun n => !s.v (bits p n) with
  | some n => .tup [sYes, dI (bits p n)]
  | none => match N.find? fun n => s.v (bits p n) with
    | some n => .tup [sNo, dI (bits p n)]
    | none => .non
theorem missD_nb {p : Nat} {Y N : List Nat} {s : Sg} : nb (missD p Y N s) = true := by
  unfold missD
  split
  · exact nb_cons2 (by decide +kernel) nb_dI
  · split
    · exact nb_cons2 (by decide +kernel) nb_dI
    · rfl
theorem missD_dep {p : Nat} {Y N : List Nat} {s : Sg} : dep (missD p Y N s) ≤ 2 := by
  unfold missD
  split
  · exact dep_cons2 (by unfold sYes; rw [dep_str]; omega) (by rw [dep_dI]; omega)
  · split
    · exact dep_cons2 (by unfold sNo; rw [dep_str]; omega) (by rw [dep_dI]; omega)
    · simp [dep, toPy, PyData.depth]
theorem missD_non {p : Nat} {Y N : List Nat} {s : Sg} : isNon (missD p Y N s) = (Y.all (fun n => s.v (bits p n)) && N.all fun n => !s.v (bits p n)) := by
  unfold missD
  split
  · rename_i n h
    have h1 := List.find?_some h
    have h2 := List.mem_of_find?_eq_some h
    have : Y.all (fun n => s.v (bits p n)) = false := by
      rw [List.all_eq_false]
      exact ⟨n, h2, by simpa using h1⟩
    rw [this]; rfl
  · rename_i h
    rw [List.find?_eq_none] at h
    have : Y.all (fun n => s.v (bits p n)) = true := by
      rw [List.all_eq_true]
      exact fun n hn => by simpa using h n hn
    rw [this]
    split
    · rename_i n h
      have h1 := List.find?_some h
      have h2 := List.mem_of_find?_eq_some h
      have : N.all (fun n => !s.v (bits p n)) = false := by
        rw [List.all_eq_false]
        exact ⟨n, h2, by simpa using h1⟩
      rw [this]; rfl
    · rename_i h
      rw [List.find?_eq_none] at h
      have : N.all (fun n => !s.v (bits p n)) = true := by
        rw [List.all_eq_true]
        exact fun n hn => by simpa using h n hn
      rw [this]; rfl
theorem find_at {L : List Nat} {f : Nat → Bool} {i : Nat} (hi : i < L.length) (h : ∀ j (hj : j < L.length), j < i → f L[j] = false) (e : f L[i] = true) : L.find? f = some L[i] := by
  rw [List.find?_eq_some_iff_getElem]
  exact ⟨e, i, hi, rfl, fun j hj => by rw [h j (by omega) hj]; rfl⟩
theorem find_no {L : List Nat} {f : Nat → Bool} (h : ∀ j (hj : j < L.length), f L[j] = false) : L.find? f = none := by
  rw [List.find?_eq_none]
  intro x hx
  obtain ⟨j, hj, rfl⟩ := List.getElem_of_mem hx
  rw [h j hj]; simp
theorem ix_cas1 {h : Hea} {p : Nat} {Y N : List Nat} : ixH h (casD p Y N) (.int 1) = some (.tup (wd p Y)) := rfl
theorem ix_cas2 {h : Hea} {p : Nat} {Y N : List Nat} : ixH h (casD p Y N) (.int 2) = some (.tup (wd p N)) := rfl
theorem ix_cas0 {h : Hea} {p : Nat} {Y N : List Nat} : ixH h (casD p Y N) (.int 0) = some (.int p) := rfl
theorem missed_at {gv : Nat} (e : Fs[g]? = some (missedF gv)) (ev : Fs[gv]? = some (valueF gv)) {p : Nat} {Y N : List Nat} {bs : List Int} {s : Sg} {k M : Nat} (hs : s.ok p bs k) (hM : k + 2 ≤ M) {h : Hea} : WP (run Fs M g [casD p Y N, s.d] h) (fun d h' => d = missD p Y N s ∧ h' = h) NX := by
  obtain ⟨m, rfl⟩ : ∃ m, M = m + 1 := ⟨M - 1, by omega⟩
  rw [run_at e]
  refine WP_exF rfl ?_
  simp only [missedF]
  have val : ∀ (n : Nat) (h : Hea), WP (run Fs m gv [s.d, dI (bits p n)] h) (fun d h' => ∃ i, d = .int i ∧ (i = b2i (s.v (bits p n)) ∧ h' = h)) NX := fun n h => value_at ev (by rw [bits_len]; exact Int.le_refl _) hs (by omega) h
  refine B_seq (fun ρ h' => (∃ x, ρ = [some (casD p Y N), some s.d, x]) ∧ h' = h ∧ Y.find? (fun n => !s.v (bits p n)) = none) ?_ ?_
  · trivial
    rw [ix_cas1]
    trivial
    refine frL_val (fun i ρ h' => (∃ x, ρ = [some (casD p Y N), some s.d, x]) ∧ h' = h ∧ ∀ j (hj : j < Y.length), j < i → (!s.v (bits p Y[j])) = false) ⟨⟨_, rfl⟩, rfl, fun j _ hj => by omega⟩ ?_ ?_
    · rintro i hi ρ h' ⟨⟨x, rfl⟩, rfl, hj⟩
      have hi' : i < Y.length := by rw [wd_len] at hi; exact hi
      have eg : (wd p Y)[i] = dI (bits p Y[i]) := by simp only [wd, List.getElem_map]
      rw [eg, B_cons]
      trivial
      refine W_meltI (val Y[i] h') ?_
      rintro c h2 ⟨rfl, rfl⟩
      trivial
      cases hb : s.v (bits p Y[i]) with
      | true =>
        rw [show b2i true = 1 from rfl]
        trivial
        refine ⟨⟨_, rfl⟩, fun j hjl hj2 => ?_⟩
        rcases Nat.lt_or_ge j i with q | q
        · exact hj j hjl q
        · have : j = i := by omega
          subst this
          rw [hb]; rfl
      | false =>
        rw [show b2i false = 0 from rfl]
        trivial
        rw [B_cons]
        trivial
        refine ⟨by unfold SL; omega, ?_⟩
        rw [leave_tup (by simp [below_dI])]
        trivial
        refine ⟨?_, trunc_self⟩
        unfold missD
        rw [find_at hi' hj (by rw [hb]; rfl)]
        rfl
    · rintro ρ h' ⟨⟨x, rfl⟩, rfl, hj⟩
      refine ⟨⟨_, rfl⟩, rfl, find_no fun j hjl => hj j hjl (by rw [wd_len]; exact hjl)⟩
  rintro ρ h' ⟨⟨x, rfl⟩, rfl, hy⟩
  refine B_seq (fun ρ h2 => h2 = h' ∧ N.find? (fun n => s.v (bits p n)) = none) ?_ ?_
  · trivial
    rw [ix_cas2]
    trivial
    refine frL_val (fun i ρ h2 => (∃ x, ρ = [some (casD p Y N), some s.d, x]) ∧ h2 = h' ∧ ∀ j (hj : j < N.length), j < i → s.v (bits p N[j]) = false) ⟨⟨_, rfl⟩, rfl, fun j _ hj => by omega⟩ ?_ ?_
    · rintro i hi ρ h2 ⟨⟨x, rfl⟩, rfl, hj⟩
      have hi' : i < N.length := by rw [wd_len] at hi; exact hi
      have eg : (wd p N)[i] = dI (bits p N[i]) := by simp only [wd, List.getElem_map]
      rw [eg, B_cons]
      trivial
      refine W_meltI (val N[i] h2) ?_
      rintro c h2 ⟨rfl, rfl⟩
      trivial
      cases hb : s.v (bits p N[i]) with
      | false =>
        rw [show b2i false = 0 from rfl]
        trivial
        refine ⟨⟨_, rfl⟩, fun j hjl hj2 => ?_⟩
        rcases Nat.lt_or_ge j i with q | q
        · exact hj j hjl q
        · have : j = i := by omega
          subst this
          rw [hb]
      | true =>
        rw [show b2i true = 1 from rfl]
        trivial
        rw [B_cons]
        trivial
        refine ⟨by unfold SL; omega, ?_⟩
        rw [leave_tup (by simp [below_dI])]
        trivial
        refine ⟨?_, trunc_self⟩
        unfold missD
        rw [hy, find_at hi' hj hb]
        rfl
    · rintro ρ h2 ⟨⟨x, rfl⟩, rfl, hj⟩
      refine ⟨rfl, find_no fun j hjl => hj j hjl (by rw [wd_len]; exact hjl)⟩
  rintro ρ h2 ⟨rfl, hn⟩
  rw [B_cons]
  trivial
  refine ⟨?_, trunc_self⟩
  unfold missD
  rw [hy, hn]
theorem isN_cop {h : Hea} {d : D} : cop .isN h d .non = some (.bl (isNon d)) := rfl
theorem notN_cop {h : Hea} {d : D} : cop .notN h d .non = some (.bl (!isNon d)) := rfl
theorem parts_at {gm gv : Nat} (e : Fs[g]? = some (partsF gm)) (em : Fs[gm]? = some (missedF gv)) (ev : Fs[gv]? = some (valueF gv)) {p : Nat} {Y N : List Nat} {bs : List Int} {s : Sg} {k M : Nat} (hs : s.ok p bs k) (hM : k + 3 ≤ M) {h : Hea} : WP (run Fs M g [casD p Y N, s.d] h) (fun d h' => ∃ b, d = .bl b ∧ (b = (Y.all (fun n => s.v (bits p n)) && N.all fun n => !s.v (bits p n)) ∧ h' = h)) NX := by
  obtain ⟨m, rfl⟩ : ∃ m, M = m + 1 := ⟨M - 1, by omega⟩
  rw [run_at e]
  refine WP_exF rfl ?_
  simp only [partsF]
  rw [B_cons]
  trivial
  refine W_meltV ((missed_at em ev hs (by omega)).nx fun d h' q => ?_)
  obtain ⟨rfl, rfl⟩ := q
  refine ⟨nb_ref missD_nb, ?_⟩
  trivial
  rw [isN_cop, missD_non]
  trivial
  exact ⟨_, rfl, rfl, trunc_self⟩
end
end MP

set_option maxHeartbeats 4000000
/-! Stepping further: tags, places of short rows, calls that change nothing. -/
namespace MP
open PySem
theorem smallL {i j : Int} (h1 : -18446744073709551616 < i) (h2 : i < 18446744073709551616) : (small i || small j) = true := by
  rw [small_of (by omega) (by omega)]; rfl
theorem smallR {i j : Int} (h1 : -18446744073709551616 < j) (h2 : j < 18446744073709551616) : (small i || small j) = true := by
  rw [small_of (i := j) (by omega) (by omega), Bool.or_true]
theorem nb_str {x : List Nat} (h : (x.all fun c => decide (c < 1114112)) = true) : nb (.str x) = true := by unfold nb; exact h
theorem eq_s {h : Hea} {x y : List Nat} (hx : (x.all fun c => decide (c < 1114112)) = true) (hy : (y.all fun c => decide (c < 1114112)) = true) : cop .eq h (.str x) (.str y) = some (.bl (decide (x = y))) := by
  by_cases e : x = y
  · subst e
    rw [eq_refl (rsv_nb (nb_str hx)) (rsv_nb (nb_str hx)) (nb_str hx) (by rw [dep_str]; omega), decide_eq_true rfl]
  · rw [eq_nb (nb_str hx) (nb_str hy) (by rw [dep_str]; omega) (fun z => e (by injection z)), decide_eq_false e]
theorem ne_s {h : Hea} {x y : List Nat} (hx : (x.all fun c => decide (c < 1114112)) = true) (hy : (y.all fun c => decide (c < 1114112)) = true) : cop .ne h (.str x) (.str y) = some (.bl (!decide (x = y))) := by
  have := eq_s (h := h) hx hy
  have e : cop .eq h (.str x) (.str y) = (eqH h (.str x) (.str y)).map .bl := rfl
  have e2 : cop .ne h (.str x) (.str y) = (eqH h (.str x) (.str y)).map fun c => .bl !c := rfl
  rw [e] at this
  rw [e2]
  cases q : eqH h (.str x) (.str y) with
  | none => rw [q] at this; cases this
  | some k => rw [q] at this; cases this; rfl
theorem eq_s_tt {h : Hea} {x : List Nat} (hx : (x.all fun c => decide (c < 1114112)) = true) : cop .eq h (.str x) (.str x) = some (.bl true) := by rw [eq_s hx hx, decide_eq_true rfl]
theorem eq_s_ff {h : Hea} {x y : List Nat} (hx : (x.all fun c => decide (c < 1114112)) = true) (hy : (y.all fun c => decide (c < 1114112)) = true) (n : x ≠ y) : cop .eq h (.str x) (.str y) = some (.bl false) := by rw [eq_s hx hy, decide_eq_false n]
theorem ne_s_tt {h : Hea} {x : List Nat} (hx : (x.all fun c => decide (c < 1114112)) = true) : cop .ne h (.str x) (.str x) = some (.bl false) := by rw [ne_s hx hx, decide_eq_true rfl]; rfl
theorem ne_s_ff {h : Hea} {x y : List Nat} (hx : (x.all fun c => decide (c < 1114112)) = true) (hy : (y.all fun c => decide (c < 1114112)) = true) (n : x ≠ y) : cop .ne h (.str x) (.str y) = some (.bl true) := by rw [ne_s hx hy, decide_eq_false n]; rfl
theorem q_is_is {h : Hea} : cop .eq h (.str [105, 115]) (.str [105, 115]) = some (.bl true) := eq_s_tt (by decide)
theorem r_is_is {h : Hea} : cop .ne h (.str [105, 115]) (.str [105, 115]) = some (.bl false) := ne_s_tt (by decide)
theorem q_is_and {h : Hea} : cop .eq h (.str [105, 115]) (.str [97, 110, 100]) = some (.bl false) := eq_s_ff (by decide) (by decide) (by decide)
theorem r_is_and {h : Hea} : cop .ne h (.str [105, 115]) (.str [97, 110, 100]) = some (.bl true) := ne_s_ff (by decide) (by decide) (by decide)
theorem q_is_or {h : Hea} : cop .eq h (.str [105, 115]) (.str [111, 114]) = some (.bl false) := eq_s_ff (by decide) (by decide) (by decide)
theorem r_is_or {h : Hea} : cop .ne h (.str [105, 115]) (.str [111, 114]) = some (.bl true) := ne_s_ff (by decide) (by decide) (by decide)
theorem q_is_end {h : Hea} : cop .eq h (.str [105, 115]) (.str [101, 110, 100]) = some (.bl false) := eq_s_ff (by decide) (by decide) (by decide)
theorem r_is_end {h : Hea} : cop .ne h (.str [105, 115]) (.str [101, 110, 100]) = some (.bl true) := ne_s_ff (by decide) (by decide) (by decide)
theorem q_is_yes {h : Hea} : cop .eq h (.str [105, 115]) (.str [121, 101, 115]) = some (.bl false) := eq_s_ff (by decide) (by decide) (by decide)
theorem r_is_yes {h : Hea} : cop .ne h (.str [105, 115]) (.str [121, 101, 115]) = some (.bl true) := ne_s_ff (by decide) (by decide) (by decide)
theorem q_is_no {h : Hea} : cop .eq h (.str [105, 115]) (.str [110, 111]) = some (.bl false) := eq_s_ff (by decide) (by decide) (by decide)
theorem r_is_no {h : Hea} : cop .ne h (.str [105, 115]) (.str [110, 111]) = some (.bl true) := ne_s_ff (by decide) (by decide) (by decide)
theorem q_is_any {h : Hea} : cop .eq h (.str [105, 115]) (.str [97, 110, 121]) = some (.bl false) := eq_s_ff (by decide) (by decide) (by decide)
theorem r_is_any {h : Hea} : cop .ne h (.str [105, 115]) (.str [97, 110, 121]) = some (.bl true) := ne_s_ff (by decide) (by decide) (by decide)
theorem q_is_rising {h : Hea} : cop .eq h (.str [105, 115]) (.str [114, 105, 115, 105, 110, 103]) = some (.bl false) := eq_s_ff (by decide) (by decide) (by decide)
theorem r_is_rising {h : Hea} : cop .ne h (.str [105, 115]) (.str [114, 105, 115, 105, 110, 103]) = some (.bl true) := ne_s_ff (by decide) (by decide) (by decide)
theorem q_and_is {h : Hea} : cop .eq h (.str [97, 110, 100]) (.str [105, 115]) = some (.bl false) := eq_s_ff (by decide) (by decide) (by decide)
theorem r_and_is {h : Hea} : cop .ne h (.str [97, 110, 100]) (.str [105, 115]) = some (.bl true) := ne_s_ff (by decide) (by decide) (by decide)
theorem q_and_and {h : Hea} : cop .eq h (.str [97, 110, 100]) (.str [97, 110, 100]) = some (.bl true) := eq_s_tt (by decide)
theorem r_and_and {h : Hea} : cop .ne h (.str [97, 110, 100]) (.str [97, 110, 100]) = some (.bl false) := ne_s_tt (by decide)
theorem q_and_or {h : Hea} : cop .eq h (.str [97, 110, 100]) (.str [111, 114]) = some (.bl false) := eq_s_ff (by decide) (by decide) (by decide)
theorem r_and_or {h : Hea} : cop .ne h (.str [97, 110, 100]) (.str [111, 114]) = some (.bl true) := ne_s_ff (by decide) (by decide) (by decide)
theorem q_and_end {h : Hea} : cop .eq h (.str [97, 110, 100]) (.str [101, 110, 100]) = some (.bl false) := eq_s_ff (by decide) (by decide) (by decide)
theorem r_and_end {h : Hea} : cop .ne h (.str [97, 110, 100]) (.str [101, 110, 100]) = some (.bl true) := ne_s_ff (by decide) (by decide) (by decide)
theorem q_and_yes {h : Hea} : cop .eq h (.str [97, 110, 100]) (.str [121, 101, 115]) = some (.bl false) := eq_s_ff (by decide) (by decide) (by decide)
theorem r_and_yes {h : Hea} : cop .ne h (.str [97, 110, 100]) (.str [121, 101, 115]) = some (.bl true) := ne_s_ff (by decide) (by decide) (by decide)
theorem q_and_no {h : Hea} : cop .eq h (.str [97, 110, 100]) (.str [110, 111]) = some (.bl false) := eq_s_ff (by decide) (by decide) (by decide)
theorem r_and_no {h : Hea} : cop .ne h (.str [97, 110, 100]) (.str [110, 111]) = some (.bl true) := ne_s_ff (by decide) (by decide) (by decide)
theorem q_and_any {h : Hea} : cop .eq h (.str [97, 110, 100]) (.str [97, 110, 121]) = some (.bl false) := eq_s_ff (by decide) (by decide) (by decide)
theorem r_and_any {h : Hea} : cop .ne h (.str [97, 110, 100]) (.str [97, 110, 121]) = some (.bl true) := ne_s_ff (by decide) (by decide) (by decide)
theorem q_and_rising {h : Hea} : cop .eq h (.str [97, 110, 100]) (.str [114, 105, 115, 105, 110, 103]) = some (.bl false) := eq_s_ff (by decide) (by decide) (by decide)
theorem r_and_rising {h : Hea} : cop .ne h (.str [97, 110, 100]) (.str [114, 105, 115, 105, 110, 103]) = some (.bl true) := ne_s_ff (by decide) (by decide) (by decide)
theorem q_or_is {h : Hea} : cop .eq h (.str [111, 114]) (.str [105, 115]) = some (.bl false) := eq_s_ff (by decide) (by decide) (by decide)
theorem r_or_is {h : Hea} : cop .ne h (.str [111, 114]) (.str [105, 115]) = some (.bl true) := ne_s_ff (by decide) (by decide) (by decide)
theorem q_or_and {h : Hea} : cop .eq h (.str [111, 114]) (.str [97, 110, 100]) = some (.bl false) := eq_s_ff (by decide) (by decide) (by decide)
theorem r_or_and {h : Hea} : cop .ne h (.str [111, 114]) (.str [97, 110, 100]) = some (.bl true) := ne_s_ff (by decide) (by decide) (by decide)
theorem q_or_or {h : Hea} : cop .eq h (.str [111, 114]) (.str [111, 114]) = some (.bl true) := eq_s_tt (by decide)
theorem r_or_or {h : Hea} : cop .ne h (.str [111, 114]) (.str [111, 114]) = some (.bl false) := ne_s_tt (by decide)
theorem q_or_end {h : Hea} : cop .eq h (.str [111, 114]) (.str [101, 110, 100]) = some (.bl false) := eq_s_ff (by decide) (by decide) (by decide)
theorem r_or_end {h : Hea} : cop .ne h (.str [111, 114]) (.str [101, 110, 100]) = some (.bl true) := ne_s_ff (by decide) (by decide) (by decide)
theorem q_or_yes {h : Hea} : cop .eq h (.str [111, 114]) (.str [121, 101, 115]) = some (.bl false) := eq_s_ff (by decide) (by decide) (by decide)
theorem r_or_yes {h : Hea} : cop .ne h (.str [111, 114]) (.str [121, 101, 115]) = some (.bl true) := ne_s_ff (by decide) (by decide) (by decide)
theorem q_or_no {h : Hea} : cop .eq h (.str [111, 114]) (.str [110, 111]) = some (.bl false) := eq_s_ff (by decide) (by decide) (by decide)
theorem r_or_no {h : Hea} : cop .ne h (.str [111, 114]) (.str [110, 111]) = some (.bl true) := ne_s_ff (by decide) (by decide) (by decide)
theorem q_or_any {h : Hea} : cop .eq h (.str [111, 114]) (.str [97, 110, 121]) = some (.bl false) := eq_s_ff (by decide) (by decide) (by decide)
theorem r_or_any {h : Hea} : cop .ne h (.str [111, 114]) (.str [97, 110, 121]) = some (.bl true) := ne_s_ff (by decide) (by decide) (by decide)
theorem q_or_rising {h : Hea} : cop .eq h (.str [111, 114]) (.str [114, 105, 115, 105, 110, 103]) = some (.bl false) := eq_s_ff (by decide) (by decide) (by decide)
theorem r_or_rising {h : Hea} : cop .ne h (.str [111, 114]) (.str [114, 105, 115, 105, 110, 103]) = some (.bl true) := ne_s_ff (by decide) (by decide) (by decide)
theorem q_end_is {h : Hea} : cop .eq h (.str [101, 110, 100]) (.str [105, 115]) = some (.bl false) := eq_s_ff (by decide) (by decide) (by decide)
theorem r_end_is {h : Hea} : cop .ne h (.str [101, 110, 100]) (.str [105, 115]) = some (.bl true) := ne_s_ff (by decide) (by decide) (by decide)
theorem q_end_and {h : Hea} : cop .eq h (.str [101, 110, 100]) (.str [97, 110, 100]) = some (.bl false) := eq_s_ff (by decide) (by decide) (by decide)
theorem r_end_and {h : Hea} : cop .ne h (.str [101, 110, 100]) (.str [97, 110, 100]) = some (.bl true) := ne_s_ff (by decide) (by decide) (by decide)
theorem q_end_or {h : Hea} : cop .eq h (.str [101, 110, 100]) (.str [111, 114]) = some (.bl false) := eq_s_ff (by decide) (by decide) (by decide)
theorem r_end_or {h : Hea} : cop .ne h (.str [101, 110, 100]) (.str [111, 114]) = some (.bl true) := ne_s_ff (by decide) (by decide) (by decide)
theorem q_end_end {h : Hea} : cop .eq h (.str [101, 110, 100]) (.str [101, 110, 100]) = some (.bl true) := eq_s_tt (by decide)
theorem r_end_end {h : Hea} : cop .ne h (.str [101, 110, 100]) (.str [101, 110, 100]) = some (.bl false) := ne_s_tt (by decide)
theorem q_end_yes {h : Hea} : cop .eq h (.str [101, 110, 100]) (.str [121, 101, 115]) = some (.bl false) := eq_s_ff (by decide) (by decide) (by decide)
theorem r_end_yes {h : Hea} : cop .ne h (.str [101, 110, 100]) (.str [121, 101, 115]) = some (.bl true) := ne_s_ff (by decide) (by decide) (by decide)
theorem q_end_no {h : Hea} : cop .eq h (.str [101, 110, 100]) (.str [110, 111]) = some (.bl false) := eq_s_ff (by decide) (by decide) (by decide)
theorem r_end_no {h : Hea} : cop .ne h (.str [101, 110, 100]) (.str [110, 111]) = some (.bl true) := ne_s_ff (by decide) (by decide) (by decide)
theorem q_end_any {h : Hea} : cop .eq h (.str [101, 110, 100]) (.str [97, 110, 121]) = some (.bl false) := eq_s_ff (by decide) (by decide) (by decide)
theorem r_end_any {h : Hea} : cop .ne h (.str [101, 110, 100]) (.str [97, 110, 121]) = some (.bl true) := ne_s_ff (by decide) (by decide) (by decide)
theorem q_end_rising {h : Hea} : cop .eq h (.str [101, 110, 100]) (.str [114, 105, 115, 105, 110, 103]) = some (.bl false) := eq_s_ff (by decide) (by decide) (by decide)
theorem r_end_rising {h : Hea} : cop .ne h (.str [101, 110, 100]) (.str [114, 105, 115, 105, 110, 103]) = some (.bl true) := ne_s_ff (by decide) (by decide) (by decide)
theorem q_yes_is {h : Hea} : cop .eq h (.str [121, 101, 115]) (.str [105, 115]) = some (.bl false) := eq_s_ff (by decide) (by decide) (by decide)
theorem r_yes_is {h : Hea} : cop .ne h (.str [121, 101, 115]) (.str [105, 115]) = some (.bl true) := ne_s_ff (by decide) (by decide) (by decide)
theorem q_yes_and {h : Hea} : cop .eq h (.str [121, 101, 115]) (.str [97, 110, 100]) = some (.bl false) := eq_s_ff (by decide) (by decide) (by decide)
theorem r_yes_and {h : Hea} : cop .ne h (.str [121, 101, 115]) (.str [97, 110, 100]) = some (.bl true) := ne_s_ff (by decide) (by decide) (by decide)
theorem q_yes_or {h : Hea} : cop .eq h (.str [121, 101, 115]) (.str [111, 114]) = some (.bl false) := eq_s_ff (by decide) (by decide) (by decide)
theorem r_yes_or {h : Hea} : cop .ne h (.str [121, 101, 115]) (.str [111, 114]) = some (.bl true) := ne_s_ff (by decide) (by decide) (by decide)
theorem q_yes_end {h : Hea} : cop .eq h (.str [121, 101, 115]) (.str [101, 110, 100]) = some (.bl false) := eq_s_ff (by decide) (by decide) (by decide)
theorem r_yes_end {h : Hea} : cop .ne h (.str [121, 101, 115]) (.str [101, 110, 100]) = some (.bl true) := ne_s_ff (by decide) (by decide) (by decide)
theorem q_yes_yes {h : Hea} : cop .eq h (.str [121, 101, 115]) (.str [121, 101, 115]) = some (.bl true) := eq_s_tt (by decide)
theorem r_yes_yes {h : Hea} : cop .ne h (.str [121, 101, 115]) (.str [121, 101, 115]) = some (.bl false) := ne_s_tt (by decide)
theorem q_yes_no {h : Hea} : cop .eq h (.str [121, 101, 115]) (.str [110, 111]) = some (.bl false) := eq_s_ff (by decide) (by decide) (by decide)
theorem r_yes_no {h : Hea} : cop .ne h (.str [121, 101, 115]) (.str [110, 111]) = some (.bl true) := ne_s_ff (by decide) (by decide) (by decide)
theorem q_yes_any {h : Hea} : cop .eq h (.str [121, 101, 115]) (.str [97, 110, 121]) = some (.bl false) := eq_s_ff (by decide) (by decide) (by decide)
theorem r_yes_any {h : Hea} : cop .ne h (.str [121, 101, 115]) (.str [97, 110, 121]) = some (.bl true) := ne_s_ff (by decide) (by decide) (by decide)
theorem q_yes_rising {h : Hea} : cop .eq h (.str [121, 101, 115]) (.str [114, 105, 115, 105, 110, 103]) = some (.bl false) := eq_s_ff (by decide) (by decide) (by decide)
theorem r_yes_rising {h : Hea} : cop .ne h (.str [121, 101, 115]) (.str [114, 105, 115, 105, 110, 103]) = some (.bl true) := ne_s_ff (by decide) (by decide) (by decide)
theorem q_no_is {h : Hea} : cop .eq h (.str [110, 111]) (.str [105, 115]) = some (.bl false) := eq_s_ff (by decide) (by decide) (by decide)
theorem r_no_is {h : Hea} : cop .ne h (.str [110, 111]) (.str [105, 115]) = some (.bl true) := ne_s_ff (by decide) (by decide) (by decide)
theorem q_no_and {h : Hea} : cop .eq h (.str [110, 111]) (.str [97, 110, 100]) = some (.bl false) := eq_s_ff (by decide) (by decide) (by decide)
theorem r_no_and {h : Hea} : cop .ne h (.str [110, 111]) (.str [97, 110, 100]) = some (.bl true) := ne_s_ff (by decide) (by decide) (by decide)
theorem q_no_or {h : Hea} : cop .eq h (.str [110, 111]) (.str [111, 114]) = some (.bl false) := eq_s_ff (by decide) (by decide) (by decide)
theorem r_no_or {h : Hea} : cop .ne h (.str [110, 111]) (.str [111, 114]) = some (.bl true) := ne_s_ff (by decide) (by decide) (by decide)
theorem q_no_end {h : Hea} : cop .eq h (.str [110, 111]) (.str [101, 110, 100]) = some (.bl false) := eq_s_ff (by decide) (by decide) (by decide)
theorem r_no_end {h : Hea} : cop .ne h (.str [110, 111]) (.str [101, 110, 100]) = some (.bl true) := ne_s_ff (by decide) (by decide) (by decide)
theorem q_no_yes {h : Hea} : cop .eq h (.str [110, 111]) (.str [121, 101, 115]) = some (.bl false) := eq_s_ff (by decide) (by decide) (by decide)
theorem r_no_yes {h : Hea} : cop .ne h (.str [110, 111]) (.str [121, 101, 115]) = some (.bl true) := ne_s_ff (by decide) (by decide) (by decide)
theorem q_no_no {h : Hea} : cop .eq h (.str [110, 111]) (.str [110, 111]) = some (.bl true) := eq_s_tt (by decide)
theorem r_no_no {h : Hea} : cop .ne h (.str [110, 111]) (.str [110, 111]) = some (.bl false) := ne_s_tt (by decide)
theorem q_no_any {h : Hea} : cop .eq h (.str [110, 111]) (.str [97, 110, 121]) = some (.bl false) := eq_s_ff (by decide) (by decide) (by decide)
theorem r_no_any {h : Hea} : cop .ne h (.str [110, 111]) (.str [97, 110, 121]) = some (.bl true) := ne_s_ff (by decide) (by decide) (by decide)
theorem q_no_rising {h : Hea} : cop .eq h (.str [110, 111]) (.str [114, 105, 115, 105, 110, 103]) = some (.bl false) := eq_s_ff (by decide) (by decide) (by decide)
theorem r_no_rising {h : Hea} : cop .ne h (.str [110, 111]) (.str [114, 105, 115, 105, 110, 103]) = some (.bl true) := ne_s_ff (by decide) (by decide) (by decide)
theorem q_any_is {h : Hea} : cop .eq h (.str [97, 110, 121]) (.str [105, 115]) = some (.bl false) := eq_s_ff (by decide) (by decide) (by decide)
theorem r_any_is {h : Hea} : cop .ne h (.str [97, 110, 121]) (.str [105, 115]) = some (.bl true) := ne_s_ff (by decide) (by decide) (by decide)
theorem q_any_and {h : Hea} : cop .eq h (.str [97, 110, 121]) (.str [97, 110, 100]) = some (.bl false) := eq_s_ff (by decide) (by decide) (by decide)
theorem r_any_and {h : Hea} : cop .ne h (.str [97, 110, 121]) (.str [97, 110, 100]) = some (.bl true) := ne_s_ff (by decide) (by decide) (by decide)
theorem q_any_or {h : Hea} : cop .eq h (.str [97, 110, 121]) (.str [111, 114]) = some (.bl false) := eq_s_ff (by decide) (by decide) (by decide)
theorem r_any_or {h : Hea} : cop .ne h (.str [97, 110, 121]) (.str [111, 114]) = some (.bl true) := ne_s_ff (by decide) (by decide) (by decide)
theorem q_any_end {h : Hea} : cop .eq h (.str [97, 110, 121]) (.str [101, 110, 100]) = some (.bl false) := eq_s_ff (by decide) (by decide) (by decide)
theorem r_any_end {h : Hea} : cop .ne h (.str [97, 110, 121]) (.str [101, 110, 100]) = some (.bl true) := ne_s_ff (by decide) (by decide) (by decide)
theorem q_any_yes {h : Hea} : cop .eq h (.str [97, 110, 121]) (.str [121, 101, 115]) = some (.bl false) := eq_s_ff (by decide) (by decide) (by decide)
theorem r_any_yes {h : Hea} : cop .ne h (.str [97, 110, 121]) (.str [121, 101, 115]) = some (.bl true) := ne_s_ff (by decide) (by decide) (by decide)
theorem q_any_no {h : Hea} : cop .eq h (.str [97, 110, 121]) (.str [110, 111]) = some (.bl false) := eq_s_ff (by decide) (by decide) (by decide)
theorem r_any_no {h : Hea} : cop .ne h (.str [97, 110, 121]) (.str [110, 111]) = some (.bl true) := ne_s_ff (by decide) (by decide) (by decide)
theorem q_any_any {h : Hea} : cop .eq h (.str [97, 110, 121]) (.str [97, 110, 121]) = some (.bl true) := eq_s_tt (by decide)
theorem r_any_any {h : Hea} : cop .ne h (.str [97, 110, 121]) (.str [97, 110, 121]) = some (.bl false) := ne_s_tt (by decide)
theorem q_any_rising {h : Hea} : cop .eq h (.str [97, 110, 121]) (.str [114, 105, 115, 105, 110, 103]) = some (.bl false) := eq_s_ff (by decide) (by decide) (by decide)
theorem r_any_rising {h : Hea} : cop .ne h (.str [97, 110, 121]) (.str [114, 105, 115, 105, 110, 103]) = some (.bl true) := ne_s_ff (by decide) (by decide) (by decide)
theorem q_rising_is {h : Hea} : cop .eq h (.str [114, 105, 115, 105, 110, 103]) (.str [105, 115]) = some (.bl false) := eq_s_ff (by decide) (by decide) (by decide)
theorem r_rising_is {h : Hea} : cop .ne h (.str [114, 105, 115, 105, 110, 103]) (.str [105, 115]) = some (.bl true) := ne_s_ff (by decide) (by decide) (by decide)
theorem q_rising_and {h : Hea} : cop .eq h (.str [114, 105, 115, 105, 110, 103]) (.str [97, 110, 100]) = some (.bl false) := eq_s_ff (by decide) (by decide) (by decide)
theorem r_rising_and {h : Hea} : cop .ne h (.str [114, 105, 115, 105, 110, 103]) (.str [97, 110, 100]) = some (.bl true) := ne_s_ff (by decide) (by decide) (by decide)
theorem q_rising_or {h : Hea} : cop .eq h (.str [114, 105, 115, 105, 110, 103]) (.str [111, 114]) = some (.bl false) := eq_s_ff (by decide) (by decide) (by decide)
theorem r_rising_or {h : Hea} : cop .ne h (.str [114, 105, 115, 105, 110, 103]) (.str [111, 114]) = some (.bl true) := ne_s_ff (by decide) (by decide) (by decide)
theorem q_rising_end {h : Hea} : cop .eq h (.str [114, 105, 115, 105, 110, 103]) (.str [101, 110, 100]) = some (.bl false) := eq_s_ff (by decide) (by decide) (by decide)
theorem r_rising_end {h : Hea} : cop .ne h (.str [114, 105, 115, 105, 110, 103]) (.str [101, 110, 100]) = some (.bl true) := ne_s_ff (by decide) (by decide) (by decide)
theorem q_rising_yes {h : Hea} : cop .eq h (.str [114, 105, 115, 105, 110, 103]) (.str [121, 101, 115]) = some (.bl false) := eq_s_ff (by decide) (by decide) (by decide)
theorem r_rising_yes {h : Hea} : cop .ne h (.str [114, 105, 115, 105, 110, 103]) (.str [121, 101, 115]) = some (.bl true) := ne_s_ff (by decide) (by decide) (by decide)
theorem q_rising_no {h : Hea} : cop .eq h (.str [114, 105, 115, 105, 110, 103]) (.str [110, 111]) = some (.bl false) := eq_s_ff (by decide) (by decide) (by decide)
theorem r_rising_no {h : Hea} : cop .ne h (.str [114, 105, 115, 105, 110, 103]) (.str [110, 111]) = some (.bl true) := ne_s_ff (by decide) (by decide) (by decide)
theorem q_rising_any {h : Hea} : cop .eq h (.str [114, 105, 115, 105, 110, 103]) (.str [97, 110, 121]) = some (.bl false) := eq_s_ff (by decide) (by decide) (by decide)
theorem r_rising_any {h : Hea} : cop .ne h (.str [114, 105, 115, 105, 110, 103]) (.str [97, 110, 121]) = some (.bl true) := ne_s_ff (by decide) (by decide) (by decide)
theorem q_rising_rising {h : Hea} : cop .eq h (.str [114, 105, 115, 105, 110, 103]) (.str [114, 105, 115, 105, 110, 103]) = some (.bl true) := eq_s_tt (by decide)
theorem r_rising_rising {h : Hea} : cop .ne h (.str [114, 105, 115, 105, 110, 103]) (.str [114, 105, 115, 105, 110, 103]) = some (.bl false) := ne_s_tt (by decide)
section
variable {h : Hea} {x y z w : D} {ds : List D} {n : Nat}
theorem ix_t0 : ixH h (.tup (x :: ds)) (.int 0) = some x := by
  exact (ix_tup (k := 0) (plc_pos (b := _) (k := 0) (by simp))).trans rfl
theorem ix_t1 : ixH h (.tup (x :: y :: ds)) (.int 1) = some y := by
  exact (ix_tup (k := 1) (plc_pos (b := _) (k := 1) (by simp))).trans rfl
theorem ix_t2 : ixH h (.tup (x :: y :: z :: ds)) (.int 2) = some z := by
  exact (ix_tup (k := 2) (plc_pos (b := _) (k := 2) (by simp))).trans rfl
theorem ix_t3 : ixH h (.tup (x :: y :: z :: w :: ds)) (.int 3) = some w := by
  exact (ix_tup (k := 3) (plc_pos (b := _) (k := 3) (by simp))).trans rfl
theorem ix_l0 : ixH h (.lst (x :: ds)) (.int 0) = some x := by
  exact (ix_lst (k := 0) (plc_pos (b := _) (k := 0) (by simp))).trans rfl
theorem ix_l1 : ixH h (.lst (x :: y :: ds)) (.int 1) = some y := by
  exact (ix_lst (k := 1) (plc_pos (b := _) (k := 1) (by simp))).trans rfl
theorem ix_l2 : ixH h (.lst (x :: y :: z :: ds)) (.int 2) = some z := by
  exact (ix_lst (k := 2) (plc_pos (b := _) (k := 2) (by simp))).trans rfl
theorem melt_int {i : Int} : melt n (.ok (.int i) h) = .ok (.int i) h := rfl
theorem melt_bl {i : Bool} : melt n (.ok (.bl i) h) = .ok (.bl i) h := rfl
theorem melt_str {i : List Nat} : melt n (.ok (.str i) h) = .ok (.str i) h := rfl
theorem melt_non : melt n (.ok .non h) = .ok .non h := rfl
theorem melt_tup : melt n (.ok (.tup ds) h) = .ok (.tup ds) h := rfl
theorem melt_lst : melt n (.ok (.lst ds) h) = .ok (.lst ds) h := rfl
theorem melt_scr {ns : List Int} : melt n (.ok (.scr ns) h) = .ok (.scr ns) h := rfl
theorem melt_dI {xs : List Int} : melt n (.ok (dI xs) h) = .ok (dI xs) h := rfl
theorem melt_nb {d : D} (hd : nb d = true) : melt n (.ok d h) = .ok d h := melt_val (nb_ref hd)
theorem melt_new {ds : List D} (l : n ≤ h.length) : melt n (.ok (.ref h.length) (.lst ds :: h)) = .ok (.lst ds) h := by
  unfold melt
  simp only
  rw [if_pos (by simp only [true_and]; exact l)]
theorem tru_str0 {x : List Nat} : tru h (.str x) = if x.length ≤ SL then some (!x.isEmpty) else none := rfl
end
section
variable {r : R D} {v : D} {n : Nat} {h : Hea} {Q : D → Hea → Prop} {E : Xc → Hea → Prop}
theorem WP.eq (w : WP r (fun d h' => d = v ∧ h' = h) NX) : r = .ok v h := by
  obtain ⟨a, h', e, rfl, rfl⟩ := w.run
  exact e
theorem WP.eqI {i : Int} (w : WP r (fun d h' => ∃ j, d = .int j ∧ (j = i ∧ h' = h)) NX) : r = .ok (.int i) h := by
  obtain ⟨a, h', e, j, rfl, rfl, rfl⟩ := w.run
  exact e
theorem WP.eqB {i : Bool} (w : WP r (fun d h' => ∃ j, d = .bl j ∧ (j = i ∧ h' = h)) NX) : r = .ok (.bl i) h := by
  obtain ⟨a, h', e, j, rfl, rfl, rfl⟩ := w.run
  exact e
theorem WP.eqL {ds : List D} (w : WP r (fun d h' => d = .ref h.length ∧ h' = .lst ds :: h) NX) : r = .ok (.ref h.length) (.lst ds :: h) := by
  obtain ⟨a, h', e, rfl, rfl⟩ := w.run
  exact e
theorem WP_of_eq {α : Type} {r : R α} {v : α} {h : Hea} {Q : α → Hea → Prop} {E : Xc → Hea → Prop} (e : r = .ok v h) (q : Q v h) : WP r Q E := by rw [e]; exact ⟨q⟩
end
/-- both ways of an if, then the rest once -/
theorem Ite.cut {c : Bool} {C : CT} {a b : List Sm} {ρ : Env} {h : Hea} {I : Env → Hea → Prop} {Q : Fl → Hea → Prop} {E : Xc → Hea → Prop} (J : Env → Hea → Prop) (h1 : c = true → WP (exB C a ρ h) (Nxt J Q) E) (h2 : c = false → WP (exB C b ρ h) (Nxt J Q) E) (h3 : ∀ ρ h, J ρ h → I ρ h) :
    Ite c (WP (exB C a ρ h) (Nxt I Q) E) (WP (exB C b ρ h) (Nxt I Q) E) := by
  have up : ∀ fl h', Nxt J Q fl h' → Nxt I Q fl h' := fun fl h' q => by
    cases fl with
    | nx ρ => exact h3 _ _ q
    | _ => exact q
  exact Ite.mk (fun e => (h1 e).mono up) fun e => (h2 e).mono up
theorem get1 {h : Hea} {c d : Cell} : get (c :: d :: h) h.length = some d := by rw [get_und (by simp)]; exact get_top
theorem put1 {h : Hea} {c d x : Cell} : put (c :: d :: h) h.length x = c :: x :: h := by rw [put_und (by simp), put_top]
end MP

set_option maxHeartbeats 4000000
/-! Joined by halves, and unjoined. -/
namespace MP
open PySem
local macro_rules | `(tactic| trivial) => `(tactic| try simp -implicitDefEqProofs only [WP_ok, WP_nox, Nam_some, Opt_some, Opt_if, Ite_tt, Ite_ff, IntV_int, TupV_tup, setAll, BlV_bl, ↓Nxt_nx, ↓Nxt_rt, ↓Nxt_bk, ↓Nxt_ct, ↓Nxt_xc, ↓Bod_nx, ↓Bod_ct, ↓Bod_bk, ↓Bod_rt, ↓Bod_xc, ↓Ret_rt, ↓Ret_nx, ↓Ret_xc,
  ↓W_cst, ↓W_nam, ↓W_bin, ↓W_neg, ↓W_cmp, ↓W_land, ↓W_lor, ↓W_lnot, ↓W_ite, ↓W_nil, ↓W_cons, ↓W_tup, ↓W_lst, ↓W_dic, ↓W_idx, ↓W_ono, ↓W_oso, ↓W_slc, ↓W_cal, ↓W_blt, ↓W_mth, ↓W_val, ↓W_rng, ↓W_rng2, ↓W_zip, ↓W_enu, ↓W_glb, ↓W_lc, ↓W_lcc, ↓W_chn,
  ↓T_cmp, ↓T_chn, ↓T_land, ↓T_lor, ↓T_lnot, ↓T_ite, ↓T_cst, ↓T_nam, ↓T_idx, ↓T_cal, ↓T_blt, ↓T_bin, tru_bl, tru_int, B_nil, S_exp, S_set, S_sti, S_ifs, S_whl, S_for, S_ret, S_rtn, S_brk, S_cnt, S_unp,
  bop_add, bop_sub, bop_mul, bop_fdiv, bop_mod, bop_pow, bop_shl, bop_shr, bop_and, bop_or, bop_xor, bop_tup, bop_str, bop_smul, bop_rep, bop_cat, cop_eq_int, cop_ne_int, cop_lt_int, cop_le_int, cop_gt_int, cop_ge_int, cop_isB, cop_notB, mk_int', mk_bl', mk_non', mk_str', mk_tup', mk_ff, mk_tt, mk_ttD,
  bl_len_scr, bl_len_lst, bl_len_tup, bl_len_str, bl_abs, bl_max, bl_min, bl_int, bl_intb, bl_str, bl_tuple_lst, bl_tuple_tup, bl_list_lst, bl_list_tup, bl_all, bl_any, bl_sum, bl_isi, isi_int, isi_bl, isi_str, isi_tup, isi_lst, isi_non, isi_dic, omap_some, isTy, List.any_cons, List.any_nil, Bool.or_false, Bool.or_true, Bool.true_or, Bool.false_or,
  leave_int, leave_bl, leave_non, leave_str, walkV_lst, walkV_tup, wipeE, if_true, decide_true, decide_false, Int.cast_ofNat_Int, Int.natCast_zero, Int.natCast_one, Bool.false_eq_true, if_false, Bool.not_true, Bool.not_false, Nat.zero_le, true_and, and_true, ne_eq, not_false_eq_true,
  start, List.map_cons, List.map_nil, List.length_cons, List.length_nil, List.replicate, List.cons_append, List.nil_append, List.set_cons_zero, List.set_cons_succ, List.getElem?_cons_zero, List.getElem?_cons_succ, Nat.reduceSub, Nat.reduceAdd, Int.reduceEq, Int.reduceLE, Int.reduceLT, Int.reducePow, Int.reduceToNat, Nat.reduceLT, Nat.reduceLeDiff, Int.reduceNeg, Nat.reducePow, bindT_one])
def joinedF (g : Nat) : Fn := ⟨2, 3, false,
   [.ifs (.cmp .eq (.blt false .len (.cons (.nam 1) .nil)) (.cst (.int 1)))
     [.ret (.idx (.nam 1) (.cst (.int 0)))]
     [],
    .set 2 (.bin false .fdiv (.bin false .add (.blt false .len (.cons (.nam 1) .nil)) (.cst (.int 1))) (.cst (.int 2))),
    .ret (.tup (.cons (.nam 0) (.cons (.cal false g (.cons (.nam 0) (.cons (.slc false (.nam 1) .none (.some (.nam 2))) .nil))) (.cons (.cal false g (.cons (.nam 0) (.cons (.slc false (.nam 1) (.some (.nam 2)) .none) .nil))) .nil))))]⟩
def unjoinedF : Fn := ⟨3, 8, false,
   [.set 3 (.lst true (.cons (.tup (.cons (.nam 0) (.cons (.nam 2) .nil))) .nil)),
    .set 4 (.lst true .nil),
    .whl (.cmp .ne (.nam 3) (.lst false .nil))
     [.unp [5, 6] (.mth false .pop (.nam 3) .nil),
      .ifs (.cmp .eq (.nam 6) (.cst (.int 1)))
       [.exp (.mth false .append (.nam 4) (.cons (.nam 5) .nil))]
       [.ifs (.lor (.lnot (.blt false (.isi [.tuple]) (.cons (.nam 5) .nil))) (.lor (.cmp .ne (.blt false .len (.cons (.nam 5) .nil)) (.cst (.int 3))) (.cmp .ne (.idx (.nam 5) (.cst (.int 0))) (.nam 1))))
         [.ret (.cst .non)]
         [],
        .set 7 (.bin false .sub (.nam 6) (.bin false .fdiv (.nam 6) (.cst (.int 2)))),
        .exp (.mth false .extend (.nam 3) (.cons (.lst false (.cons (.tup (.cons (.idx (.nam 5) (.cst (.int 2))) (.cons (.bin false .sub (.nam 6) (.nam 7)) .nil))) (.cons (.tup (.cons (.idx (.nam 5) (.cst (.int 1))) (.cons (.nam 7) .nil))) .nil))) .nil))]],
    .ret (.nam 4)]⟩
/-! ### joined -/
def hd (ds : List D) : D := ds.headD .non
def jt (J : D) : Nat → List D → D
  | 0, ds => hd ds
  | f + 1, ds => if ds.length = 1 then hd ds else .tup [J, jt J f (ds.take ((ds.length + 1) / 2)), jt J f (ds.drop ((ds.length + 1) / 2))]
theorem hd_mem {ds : List D} (h : 1 ≤ ds.length) : hd ds ∈ ds := by cases ds <;> simp_all [hd]
theorem half_ok {n f : Nat} (h1 : n ≠ 1) (h2 : 1 ≤ n) (h3 : n ≤ 2 ^ (f + 1)) : 1 ≤ (n + 1) / 2 ∧ (n + 1) / 2 ≤ 2 ^ f ∧ 1 ≤ n - (n + 1) / 2 ∧ n - (n + 1) / 2 ≤ 2 ^ f ∧ (n + 1) / 2 ≤ n := by
  have : 2 ^ (f + 1) = 2 * 2 ^ f := by rw [Nat.pow_succ]; omega
  omega
theorem jt_ok {J : D} (hJ : nb J = true) (dJ : dep J = 0) {e : Nat} : ∀ (f : Nat) (ds : List D), 1 ≤ ds.length → (∀ d ∈ ds, nb d = true ∧ dep d ≤ e) → nb (jt J f ds) = true ∧ dep (jt J f ds) ≤ e + f
  | 0, ds, h1, hd' => by
    have := hd' _ (hd_mem h1)
    exact ⟨this.1, by unfold jt; omega⟩
  | f + 1, ds, h1, hd' => by
    unfold jt
    split
    · have := hd' _ (hd_mem h1)
      exact ⟨this.1, by omega⟩
    · rename_i hn
      obtain ⟨a1, a2⟩ := jt_ok hJ dJ f (ds.take ((ds.length + 1) / 2)) (by rw [List.length_take]; omega) fun d hd => hd' d (List.mem_of_mem_take hd)
      obtain ⟨b1, b2⟩ := jt_ok hJ dJ f (ds.drop ((ds.length + 1) / 2)) (by rw [List.length_drop]; omega) fun d hd => hd' d (List.mem_of_mem_drop hd)
      exact ⟨nb_cons3 hJ a1 b1, by have := dep_cons3 (x := J) (n := e + f) (by omega) a2 b2; omega⟩
theorem lenW {h : Hea} {s : D} {ds : List D} (e : lstW h s = some ds) : bltH .len h [s] = some (.int ds.length) := by
  unfold lstW at e
  split at e
  · cases e; rfl
  · split at e
    · rename_i g; cases e; exact bl_len_ref g
    · cases e
  · cases e
theorem ixW {h : Hea} {s : D} {ds : List D} (e : lstW h s = some ds) (hl : 1 ≤ ds.length) : ixH h s (.int 0) = some (hd ds) := by
  have e0 : ds[0]? = some (hd ds) := by cases ds <;> simp_all [hd]
  unfold lstW at e
  split at e
  · cases e; rw [ix_lst (plc_int (by omega) (by omega))]; exact e0
  · split at e
    · rename_i g; cases e; rw [ix_ref g (plc_int (by omega) (by omega))]; exact e0
    · cases e
  · cases e
theorem slW {h : Hea} {s : D} {ds : List D} {lo hi : Option Int} (e : lstW h s = some ds) : slH h s lo hi = some (.lst (cut ds lo hi)) := by
  unfold lstW at e
  split at e
  · cases e; rfl
  · split at e
    · rename_i g
      cases e
      unfold slH
      show (lstV h (.ref _)).map _ = _
      unfold lstV
      simp only [g]; rfl
    · cases e
  · cases e
theorem joined_ok {Fs : List Fn} {g : Nat} (e0 : Fs[g]? = some (joinedF g)) {J : D} (hJ : nb J = true) (dJ : dep J = 0) {e : Nat} : ∀ (f : Nat) (s : D) (ds : List D) (h : Hea), lstW h s = some ds → 1 ≤ ds.length → ds.length ≤ 2 ^ f → (∀ d ∈ ds, nb d = true ∧ dep d ≤ e) →
    ∀ k, WP (run Fs (f + 1 + k) g [J, s] h) (fun d h' => d = jt J f ds ∧ h' = h) NX := by
  intro f
  induction f with
  | zero =>
    intro s ds h es h1 h2 hd' k
    rw [show 0 + 1 + k = k + 1 by omega, run_at e0]
    refine WP_exF rfl ?_
    simp only [joinedF]
    rw [B_cons]
    trivial
    rw [lenW es]
    trivial
    rw [show ((ds.length : Nat) : Int) = 1 by omega]
    trivial
    rw [B_cons]
    trivial
    rw [ixW es h1]
    trivial
    rw [leave_nb (hd' _ (hd_mem h1)).1]
    trivial
    exact ⟨rfl, trunc_self⟩
  | succ f ih =>
    intro s ds h es h1 h2 hd' k
    rw [show f + 1 + 1 + k = (f + 1 + k) + 1 by omega, run_at e0]
    refine WP_exF rfl ?_
    simp only [joinedF]
    rw [B_cons]
    trivial
    rw [lenW es]
    trivial
    refine IteD (fun hn => ?_) (fun hn => ?_)
    · rw [B_cons]
      trivial
      rw [ixW es h1]
      trivial
      rw [leave_nb (hd' _ (hd_mem h1)).1]
      trivial
      exact ⟨by unfold jt; rw [if_pos (by omega)], trunc_self⟩
    · trivial
      obtain ⟨k1, k2, k3, k4, k5⟩ := half_ok (by omega) h1 h2
      rw [B_cons]
      trivial
      rw [lenW es]
      trivial
      rw [show ((ds.length : Int) + 1).fdiv 2 = (((ds.length + 1) / 2 : Nat) : Int) by rw [Int.fdiv_eq_ediv_of_nonneg _ (by omega)]; omega]
      generalize hH : (ds.length + 1) / 2 = H at k1 k2 k3 k4 k5
      rw [B_cons]
      trivial
      rw [slW es, cut_take k5]
      trivial
      have i1 := ih (.lst (ds.take H)) (ds.take H) h rfl (by rw [List.length_take]; omega) (by rw [List.length_take]; omega) (fun d hd => hd' d (List.mem_of_mem_take hd)) k
      have g1 := (jt_ok hJ dJ f (ds.take H) (by rw [List.length_take]; omega) fun d hd => hd' d (List.mem_of_mem_take hd)).1
      refine W_meltV (i1.nx fun d h' q => ?_)
      obtain ⟨rfl, rfl⟩ := q
      refine ⟨nb_ref g1, ?_⟩
      trivial
      rw [slW es, cut_drop k5]
      trivial
      have i2 := ih (.lst (ds.drop H)) (ds.drop H) h' rfl (by rw [List.length_drop]; omega) (by rw [List.length_drop]; omega) (fun d hd => hd' d (List.mem_of_mem_drop hd)) k
      have g2 := (jt_ok hJ dJ f (ds.drop H) (by rw [List.length_drop]; omega) fun d hd => hd' d (List.mem_of_mem_drop hd)).1
      refine W_meltV (i2.nx fun d h2 q => ?_)
      obtain ⟨rfl, rfl⟩ := q
      refine ⟨nb_ref g2, ?_⟩
      trivial
      refine ⟨SL_3, ?_⟩
      rw [leave_nb (nb_cons3 hJ g1 g2)]
      trivial
      refine ⟨?_, trunc_self⟩
      rw [show jt J (f + 1) ds = .tup [J, jt J f (ds.take H), jt J f (ds.drop H)] by rw [← hH]; conv => lhs; unfold jt; rw [if_neg (by omega)]]

/-! ### unjoined -/
abbrev SegJ := Nat × List D
def prJ (J : D) (s : SegJ) : D := .tup [jt J s.1 s.2, .int s.2.length]
def stkJ (J : D) (ss : List SegJ) : List D := (ss.map (prJ J)).reverse
def wtJ : List SegJ → Nat
  | [] => 0
  | s :: ss => 2 * s.2.length - 1 + wtJ ss
def flJ (ss : List SegJ) : List D := (ss.map (·.2)).flatten
structure GoodJ (e F : Nat) (s : SegJ) : Prop where
  l1 : 1 ≤ s.2.length
  l2 : s.2.length ≤ 2 ^ s.1
  f : s.1 ≤ F
  el : ∀ d ∈ s.2, nb d = true ∧ dep d ≤ e
theorem prJ_ok {J : D} (hJ : nb J = true) (dJ : dep J = 0) {e F : Nat} {s : SegJ} (g : GoodJ e F s) : nb (prJ J s) = true ∧ dep (prJ J s) ≤ e + F + 1 := by
  obtain ⟨a, b⟩ := jt_ok hJ dJ s.1 s.2 g.l1 g.el
  have := g.f
  exact ⟨by unfold prJ nb; simp [nbs, a, nb_int], dep_cons2 (by omega) (by rw [dep_int]; omega)⟩
theorem wtJ_pos {ss : List SegJ} {e F : Nat} (h : ∀ s ∈ ss, GoodJ e F s) (n : ss ≠ []) : 0 < wtJ ss := by
  cases ss with
  | nil => exact absurd rfl n
  | cons s ss =>
    have := (h s List.mem_cons_self).l1
    unfold wtJ; omega
theorem unjoined_ok {C : CT} {J : D} (hJ : nb J = true) (dJ : dep J = 0) {F : Nat} (hF : F ≤ 10) (ds : List D) (h1 : 1 ≤ ds.length) (h2 : ds.length ≤ 2 ^ F) (hd' : ∀ d ∈ ds, nb d = true ∧ dep d ≤ 10) (hz : ds.length ≤ 1000) {h : Hea} {E : Xc → Hea → Prop} :
    WP (exF C unjoinedF [jt J F ds, J, .int ds.length] h) (fun d h' => d = .ref h.length ∧ h' = .lst ds :: h) E := by
  refine WP_exF rfl ?_
  simp only [unjoinedF]
  rw [B_cons]
  trivial
  refine ⟨by unfold SL; omega, by unfold SL; omega, ?_⟩
  rw [B_cons]
  trivial
  refine B_seq (fun ρ h' => (∃ a b c x y z, ρ = [a, b, c, some (.ref h.length), some (.ref (h.length + 1)), x, y, z]) ∧ ∃ c, h' = .lst ds :: c :: h) ?_ ?_
  · trivial
    refine whL_ind (fun m ρ h' => ∃ ss fd a c x y z, ρ = [a, some J, c, some (.ref h.length), some (.ref (h.length + 1)), x, y, z] ∧ h' = .lst fd :: .lst (stkJ J ss) :: h ∧ fd ++ flJ ss = ds ∧ (∀ s ∈ ss, GoodJ 10 10 s) ∧ wtJ ss ≤ m) ?_ WF (2 * ds.length - 1) _ _ (by unfold WF; omega) ⟨[(F, ds)], [], _, _, _, _, _, rfl, rfl, by simp [flJ], ?_, by simp [wtJ]⟩
    · rintro m ρ h' ⟨ss, fd, a, c, x, y, z, rfl, rfl, hfl, hg, hm⟩
      have g1 : MP.get (Cell.lst fd :: .lst (stkJ J ss) :: h) h.length = some (.lst (stkJ J ss)) := by rw [get_und (by simp), get_top]
      have g2 : MP.get (Cell.lst fd :: .lst (stkJ J ss) :: h) (h.length + 1) = some (.lst fd) := get_self
      have hall : ∀ d ∈ stkJ J ss, nb d = true ∧ dep d ≤ 21 := fun d hd => by
        unfold stkJ at hd
        rw [List.mem_reverse, List.mem_map] at hd
        obtain ⟨s, hs, rfl⟩ := hd
        exact prJ_ok hJ dJ (hg s hs)
      trivial
      rw [ne_nil g1 (nbs_all fun d hd => (hall d hd).1) (by have := deps_all (n := 21) fun d hd => (hall d hd).2; omega)]
      trivial
      cases ss with
      | nil =>
        simp only [stkJ, List.map_nil, List.reverse_nil, List.isEmpty_nil, Bool.not_true, Bool.false_eq_true, if_false]
        trivial
        rw [show fd = ds by rw [← hfl]; simp [flJ]]
        exact ⟨⟨_, _, _, _, _, _, rfl⟩, _, rfl⟩
      | cons s ss =>
        obtain ⟨f, seg⟩ := s
        have gs := hg _ List.mem_cons_self
        have hst : stkJ J ((f, seg) :: ss) = stkJ J ss ++ [prJ J (f, seg)] := by unfold stkJ; rw [List.map_cons, List.reverse_cons]
        have hne : (!(stkJ J ((f, seg) :: ss)).isEmpty) = true := by rw [hst]; simp
        rw [hne]
        simp only [if_true]
        rw [hst] at g1 ⊢
        rw [B_cons]
        trivial
        refine ⟨rcv_of g1 (fun z => nomatch z), ?_⟩
        rw [pop_ok (x := prJ J (f, seg)) g1 (by simp)]
        unfold prJ
        trivial
        have hput : put (Cell.lst fd :: .lst (stkJ J ss ++ [prJ J (f, seg)]) :: h) h.length (.lst ((stkJ J ss ++ [prJ J (f, seg)]).dropLast)) = .lst fd :: .lst (stkJ J ss) :: h := by
          rw [put_und (by simp), put_top, List.dropLast_concat]
        unfold prJ at hput
        rw [hput]
        have g1' : MP.get (Cell.lst fd :: .lst (stkJ J ss) :: h) h.length = some (.lst (stkJ J ss)) := by rw [get_und (by simp), get_top]
        have g2' : MP.get (Cell.lst fd :: .lst (stkJ J ss) :: h) (h.length + 1) = some (.lst fd) := get_self
        have l1 : 1 ≤ seg.length := gs.l1
        have l2 : seg.length ≤ 2 ^ f := gs.l2
        have hlen : (fd ++ flJ ((f, seg) :: ss)).length = ds.length := by rw [hfl]
        simp only [flJ, List.map_cons, List.flatten_cons, List.length_append] at hlen
        rw [B_cons]
        trivial
        refine IteD (fun hn => ?_) (fun hn => ?_)
        · rw [B_cons]
          trivial
          refine ⟨rcv_of g2' (fun z => nomatch z), ?_⟩
          have ej : jt J f seg = hd seg := by
            cases f with
            | zero => rfl
            | succ f => unfold jt; rw [if_pos (by omega)]
          have hm1 := hd_mem (ds := seg) (by omega)
          rw [ej, app_ok g2' (by unfold SL; omega) (below_nb (gs.el _ hm1).1)]
          trivial
          refine ⟨wtJ ss, ?_, ss, fd ++ [hd seg], _, _, _, _, _, rfl, ?_, ?_, fun s hs => hg s (List.mem_cons_of_mem _ hs), Nat.le_refl _⟩
          · unfold wtJ at hm
            dsimp only at hm
            omega
          · rw [show h.length + 1 = (Cell.lst (stkJ J ss) :: h).length from rfl, put_top]
          · rw [← hfl]
            have : seg = [hd seg] := by
              match seg, hn with
              | [x], _ => rfl
            simp only [flJ, List.map_cons, List.flatten_cons, List.append_assoc]
            rw [← this]
        · obtain ⟨f, rfl⟩ : ∃ f', f = f' + 1 := by
            cases f with
            | zero => rw [Nat.pow_zero] at l2; omega
            | succ f' => exact ⟨f', rfl⟩
          obtain ⟨k1, k2, k3, k4, k5⟩ := half_ok (by omega) l1 l2
          have ej : jt J (f + 1) seg = .tup [J, jt J f (seg.take ((seg.length + 1) / 2)), jt J f (seg.drop ((seg.length + 1) / 2))] := by
            conv => lhs; unfold jt
            rw [if_neg (by omega)]
          have eh : (seg.length : Int) - (seg.length : Int).fdiv 2 = (((seg.length + 1) / 2 : Nat) : Int) := by rw [Int.fdiv_eq_ediv_of_nonneg _ (by omega)]; omega
          have eh2 : (seg.length : Int) - (((seg.length + 1) / 2 : Nat) : Int) = ((seg.length - (seg.length + 1) / 2 : Nat) : Int) := by omega
          rw [ej]
          generalize hH : (seg.length + 1) / 2 = H at k1 k2 k3 k4 k5 eh eh2 ⊢
          have jj : ∀ h' : Hea, cop .ne h' J J = some (.bl false) := fun h' => by
            rw [cop_ne_of (rsv_nb hJ) (rsv_nb hJ) hJ hJ (.inl (by omega)), eqv_self hJ]; rfl
          rw [B_cons]
          trivial
          rw [show ∀ h' : Hea, ixH h' (.tup [J, jt J f (seg.take H), jt J f (seg.drop H)]) (.int 0) = some J from fun _ => rfl]
          trivial
          rw [jj]
          trivial
          rw [B_cons]
          trivial
          rw [eh, B_cons]
          trivial
          refine ⟨rcv_of g1' (fun z => nomatch z), ?_⟩
          rw [show ∀ h' : Hea, ixH h' (.tup [J, jt J f (seg.take H), jt J f (seg.drop H)]) (.int 2) = some (jt J f (seg.drop H)) from fun _ => rfl]
          trivial
          rw [show ∀ h' : Hea, ixH h' (.tup [J, jt J f (seg.take H), jt J f (seg.drop H)]) (.int 1) = some (jt J f (seg.take H)) from fun _ => rfl]
          trivial
          refine ⟨by unfold SL; omega, by unfold SL; omega, by unfold SL; omega, ?_⟩
          have gt : GoodJ 10 10 (f, seg.take H) := ⟨by dsimp only; rw [List.length_take]; omega, by dsimp only; rw [List.length_take]; omega, by have := gs.f; dsimp only at this ⊢; omega, fun d hd => gs.el d (List.mem_of_mem_take hd)⟩
          have gd : GoodJ 10 10 (f, seg.drop H) := ⟨by dsimp only; rw [List.length_drop]; omega, by dsimp only; rw [List.length_drop]; omega, by have := gs.f; dsimp only at this ⊢; omega, fun d hd => gs.el d (List.mem_of_mem_drop hd)⟩
          have et : (seg.take H).length = H := by rw [List.length_take]; omega
          have ed : (seg.drop H).length = seg.length - H := by rw [List.length_drop]
          have lw : ∀ ss : List SegJ, (∀ s ∈ ss, GoodJ 10 10 s) → ss.length ≤ (flJ ss).length := by
            intro ss
            induction ss with
            | nil => intro _; simp [flJ]
            | cons s ss ih =>
              intro hs
              have a := (hs s List.mem_cons_self).l1
              have b := ih fun x hx => hs x (List.mem_cons_of_mem _ hx)
              unfold flJ at b ⊢
              rw [List.map_cons, List.flatten_cons, List.length_append, List.length_cons]
              omega
          have lss := lw ss fun s hs => hg s (List.mem_cons_of_mem _ hs)
          rw [ext_ok g1' (es := [.tup [jt J f (seg.drop H), .int ((seg.length : Int) - (H : Int))], .tup [jt J f (seg.take H), .int (H : Int)]]) rfl (by unfold stkJ; rw [List.length_reverse, List.length_map]; unfold flJ at lss; unfold SL; simp; omega) (by simp [below_nb (prJ_ok hJ dJ gt).1, below_nb (jt_ok hJ dJ f (seg.take H) gt.l1 gt.el).1, below_nb (jt_ok hJ dJ f (seg.drop H) gd.l1 gd.el).1])]
          trivial
          refine ⟨wtJ ((f, seg.take H) :: (f, seg.drop H) :: ss), ?_, (f, seg.take H) :: (f, seg.drop H) :: ss, fd, _, _, _, _, _, rfl, ?_, ?_, ?_, Nat.le_refl _⟩
          · unfold wtJ at hm ⊢
            unfold wtJ
            dsimp only at hm ⊢
            rw [et, ed]
            omega
          · rw [put_und (by simp), put_top]
            unfold stkJ prJ
            rw [List.map_cons, List.map_cons, List.reverse_cons, List.reverse_cons, eh2]
            dsimp only
            rw [et, ed, List.append_assoc]; rfl
          · rw [← hfl]
            simp only [flJ, List.map_cons, List.flatten_cons, ← List.append_assoc]
            rw [List.append_assoc fd, List.take_append_drop]
          · intro s hs
            rcases List.mem_cons.mp hs with rfl | hs
            · exact gt
            · rcases List.mem_cons.mp hs with rfl | hs
              · exact gd
              · exact hg s (List.mem_cons_of_mem _ hs)
    · intro s hs
      have : s = (F, ds) := by simpa using hs
      subst this
      exact ⟨h1, h2, hF, hd'⟩
  · rintro ρ h' ⟨⟨a, b, c, x, y, z, rfl⟩, c', rfl⟩
    rw [B_cons]
    trivial
    rw [leave_new (a := h.length + 1) (ds := ds) (by omega) get_self (belows_nb (nbs_all fun d hd => (hd' d hd).1)), trunc_cons (by simp), trunc_cons (by simp), trunc_self]
    trivial

end MP

set_option maxHeartbeats 4000000
/-! Comprehensions and loops over numbered rows and rows side by side; picks among constants. -/
namespace MP
open PySem
section
variable {α β : Type} {el : Env → Hea → R D} {cn : Env → Hea → R Bool} {body : Env → Hea → R Fl} {i j : Nat} {ρ : Env} {h : Hea}
theorem numD_at {ds : List D} {n : Nat} (hn : n < ds.length) : (numD ds)[n]'(by rw [numD_len]; exact hn) = .v (.tup [.int (n : Nat), ds[n]]) := by
  unfold numD
  simp only [List.getElem_map, List.getElem_zip, List.getElem_range, pairD]
theorem W_lcenu {Q : List D → Hea → Prop} {E : Xc → Hea → Prop} {xs : List α} (emb : α → D) (f : Nat → α → D) (hl : xs.length ≤ SL)
    (hs : ∀ n (hn : n < xs.length), WP (el ((ρ.set i (some (.int (n : Nat)))).set j (some (emb xs[n]))) h) (fun d h' => d = f n xs[n] ∧ h' = h) NX) (hb : ∀ n (hn : n < xs.length), below h.length (f n xs[n]) = true) (q : Q (xs.mapIdx f) h) :
    WP (lcL el (fun _ h => .ok true h) (.many [i, j]) ρ none (numD (xs.map emb)) [] h) Q E := by
  refine lcL_ind (fun n acc h' => acc = (xs.mapIdx f).take n ∧ h' = h) ⟨rfl, rfl⟩ ?_ ?_
  · rintro n hn acc h' ⟨rfl, rfl⟩
    have hn' : n < xs.length := by rw [numD_len, List.length_map] at hn; exact hn
    refine ⟨.tup [.int (n : Nat), emb xs[n]], (ρ.set i (some (.int (n : Nat)))).set j (some (emb xs[n])), ?_, rfl, ?_⟩
    · rw [numD_at (by rw [List.length_map]; exact hn'), List.getElem_map]; rfl
    rw [WP_ok]
    simp only [if_true]
    refine (hs n hn').nx ?_
    rintro d h2 ⟨rfl, rfl⟩
    refine ⟨⟨?_, hb n hn'⟩, ?_, rfl⟩
    · rw [List.length_take, List.length_mapIdx]; omega
    · rw [List.take_add_one, List.getElem?_mapIdx, List.getElem?_eq_getElem hn', Option.map_some, Option.toList_some]
  · rintro acc h' ⟨rfl, rfl⟩
    refine ⟨rfl, ?_⟩
    rw [numD_len, List.length_map, List.take_of_length_le (by rw [List.length_mapIdx]; exact Nat.le_refl _)]
    exact q
theorem mapIdx_range {xs : List α} {f : Nat → α → β} (d : α) : xs.mapIdx f = (List.range xs.length).map fun n => f n (xs[n]?.getD d) := by
  refine List.ext_getElem (by simp) fun n h1 h2 => ?_
  rw [List.length_mapIdx] at h1
  simp [List.getElem?_eq_getElem h1]
theorem frL_nil {tg : Tg} {Q : Fl → Hea → Prop} {E : Xc → Hea → Prop} : WP (frL body tg none [] ρ h) Q E = Q (.nx ρ) h := by
  unfold frL
  rw [if_pos (show finOk h none = true from rfl), WP_ok]
theorem frL_bod {tg : Tg} {its : List Itm} {r : R Fl} {Q : Fl → Hea → Prop} {E : Xc → Hea → Prop} : WP (r.bnd fun f h => match f with | .nx ρ => frL body tg none its ρ h | .ct ρ => frL body tg none its ρ h | .bk ρ => .ok (.nx ρ) h | .rt d => .ok (.rt d) h | .xc x ρ => .ok (.xc x ρ) h) Q E = WP r (Bod (fun ρ h => WP (frL body tg none its ρ h) Q E) Q) E := by
  rw [WP_bnd]
  refine WPe fun fl h => ?_
  cases fl <;> first | rfl | exact WP_ok
theorem frL_one {v : Nat} {d : D} {ts : List Itm} {Q : Fl → Hea → Prop} {E : Xc → Hea → Prop} : WP (frL body (.one v) none (.v d :: ts) ρ h) Q E = WP (body (ρ.set v (some d)) h) (Bod (fun ρ h => WP (frL body (.one v) none ts ρ h) Q E) Q) E := frL_bod
theorem frL_many {is : List Nat} {ds : List D} {ts : List Itm} {Q : Fl → Hea → Prop} {E : Xc → Hea → Prop} : WP (frL body (.many is) none (.v (.tup ds) :: ts) ρ h) Q E = Opt (setAll is ds ρ) fun ρ => WP (body ρ h) (Bod (fun ρ h => WP (frL body (.many is) none ts ρ h) Q E) Q) E := by
  cases e : setAll is ds ρ with
  | none =>
    unfold frL
    show WP (match setAll is ds ρ with | none => .stuck | some ρ => _) Q E = _
    rw [e, WP_stuck]; rfl
  | some ρ' =>
    unfold frL
    show WP (match setAll is ds ρ with | none => .stuck | some ρ => _) Q E = _
    rw [e]
    exact frL_bod
/-- a loop over rows side by side -/
theorem frL_zip {Q : Fl → Hea → Prop} {E : Xc → Hea → Prop} {xs ys : List D} (I : Nat → Env → Hea → Prop) (h0 : I 0 ρ h)
    (hs : ∀ (n : Nat) (h1 : n < xs.length) (h2 : n < ys.length) ρ h, I n ρ h → WP (body ((ρ.set i (some xs[n])).set j (some ys[n])) h) (Bod (I (n + 1)) Q) E)
    (hd : ∀ ρ h, I (min xs.length ys.length) ρ h → Q (.nx ρ) h) : WP (frL body (.many [i, j]) none ((xs.zip ys).map pairD) ρ h) Q E := by
  refine frL_ind I h0 (fun n hn ρ h hI => ?_) (fun ρ h hI => ⟨rfl, hd ρ h (by rwa [List.length_map, List.length_zip] at hI)⟩)
  rw [List.length_map, List.length_zip] at hn
  exact ⟨.tup [xs[n], ys[n]], _, by simp only [List.getElem_map, List.getElem_zip, pairD]; rfl, rfl, hs n (by omega) (by omega) ρ h hI⟩
theorem frL_enu {Q : Fl → Hea → Prop} {E : Xc → Hea → Prop} {xs : List D} (I : Nat → Env → Hea → Prop) (h0 : I 0 ρ h)
    (hs : ∀ (n : Nat) (h1 : n < xs.length) ρ h, I n ρ h → WP (body ((ρ.set i (some (.int (n : Nat)))).set j (some xs[n])) h) (Bod (I (n + 1)) Q) E)
    (hd : ∀ ρ h, I xs.length ρ h → Q (.nx ρ) h) : WP (frL body (.many [i, j]) none (numD xs) ρ h) Q E := by
  refine frL_ind I h0 (fun n hn ρ h hI => ?_) (fun ρ h hI => ⟨rfl, hd ρ h (by rwa [numD_len] at hI)⟩)
  rw [numD_len] at hn
  exact ⟨.tup [.int (n : Nat), xs[n]], _, by rw [numD_at hn]; rfl, rfl, hs n hn ρ h hI⟩
theorem walkN_dI {xs : List Int} : walkN (dI xs) = some ⟨numD (xs.map .int), none⟩ := rfl
theorem walkN_tup {xs : List D} : walkN (.tup xs) = some ⟨numD xs, none⟩ := rfl
theorem walkN_lst {xs : List D} : walkN (.lst xs) = some ⟨numD xs, none⟩ := rfl
theorem walkZ_tt {xs ys : List D} : walkZ (.tup xs) (.tup ys) = some ⟨(xs.zip ys).map pairD, none⟩ := rfl
theorem walkZ_tl {xs ys : List D} : walkZ (.tup xs) (.lst ys) = some ⟨(xs.zip ys).map pairD, none⟩ := rfl
theorem walkZ_lt {xs ys : List D} : walkZ (.lst xs) (.tup ys) = some ⟨(xs.zip ys).map pairD, none⟩ := rfl
theorem walkZ_ll {xs ys : List D} : walkZ (.lst xs) (.lst ys) = some ⟨(xs.zip ys).map pairD, none⟩ := rfl
/-- a comprehension with a condition, over what stays -/
theorem W_lcfil {v : Nat} {Q : List D → Hea → Prop} {E : Xc → Hea → Prop} {xs : List α} (emb : α → D) (c : α → Bool) (f : α → D) (hl : xs.length ≤ SL)
    (hc : ∀ x ∈ xs, WP (cn (ρ.set v (some (emb x))) h) (fun b h' => b = c x ∧ h' = h) NX)
    (hs : ∀ x ∈ xs, c x = true → WP (el (ρ.set v (some (emb x))) h) (fun d h' => d = f x ∧ h' = h) NX) (hb : ∀ x ∈ xs, below h.length (f x) = true) (q : Q ((xs.filter c).map f) h) :
    WP (lcL el cn (.one v) ρ none ((xs.map emb).map .v) [] h) Q E := by
  refine lcL_ind (fun n acc h' => acc = ((xs.take n).filter c).map f ∧ h' = h) ⟨rfl, rfl⟩ ?_ ?_
  · rintro n hn acc h' ⟨rfl, rfl⟩
    have hn' : n < xs.length := by rw [List.length_map, List.length_map] at hn; exact hn
    have hm := List.getElem_mem hn'
    refine ⟨emb xs[n], _, by rw [List.getElem_map, List.getElem_map]; rfl, rfl, (hc _ hm).nx ?_⟩
    rintro b h2 ⟨rfl, rfl⟩
    have e : ((xs.take (n + 1)).filter c).map f = ((xs.take n).filter c).map f ++ if c xs[n] = true then [f xs[n]] else [] := by
      rw [List.take_add_one, List.getElem?_eq_getElem hn', Option.toList_some, List.filter_append, List.map_append]
      congr 1
      by_cases hc : c xs[n] = true <;> simp [hc]
    split
    · rename_i hc'
      refine (hs _ hm hc').nx ?_
      rintro d h3 ⟨rfl, rfl⟩
      refine ⟨⟨?_, hb _ hm⟩, ?_, rfl⟩
      · rw [List.length_map]
        have := List.length_filter_le c (xs.take n)
        rw [List.length_take] at this
        omega
      · rw [e, if_pos hc']
    · rename_i hc'
      exact ⟨by rw [e, if_neg hc', List.append_nil], rfl⟩
  · rintro acc h' ⟨rfl, rfl⟩
    refine ⟨rfl, ?_⟩
    rw [List.length_map, List.length_map, List.take_length]
    exact q
end
theorem walkV_dI {h : Hea} {xs : List Int} : walkV h (dI xs) = some ⟨(xs.map D.int).map .v, none⟩ := rfl
theorem len_dI {h : Hea} {xs : List Int} : bltH .len h [dI xs] = some (.int xs.length) := by
  unfold dI
  rw [bl_len_tup, List.length_map]
theorem leave_dI {n : Nat} {h : Hea} {xs : List Int} : leave n (dI xs) h = .ok (dI xs) (trunc n h) := leave_nb nb_dI
theorem mk_dI {n : Bool} {h : Hea} {xs : List Int} : mk n (some (dI xs)) h = .ok (dI xs) h := mk_tup'
theorem tuple_dI {h : Hea} {xs : List Int} : bltH .tuple h [dI xs] = some (dI xs) := rfl
theorem isi_dI {h : Hea} {xs : List Int} {ts : List Ty} : isiH h (dI xs) ts = some (ts.any (isTy .tuple)) := rfl
theorem tuple_ints {h : Hea} {xs : List Int} : bltH .tuple h [.lst (xs.map D.int)] = some (dI xs) := rfl
theorem TupV_dI {h : Hea} {i : List Int} {K : List D → Prop} : TupV h (dI i) K = K (i.map .int) := rfl
theorem cop_inn {h : Hea} {a b : D} : cop .inn h a b = (inH h a b).map .bl := rfl
theorem cop_notin {h : Hea} {a b : D} : cop .notin h a b = (inH h a b).map fun c => .bl !c := rfl
theorem leave_lstN {n : Nat} {h : Hea} {ds : List D} (e : h.length = n) (hd : belows n ds = true) : leave n (.ref h.length) (.lst ds :: h) = .ok (.ref n) (.lst ds :: h) := by
  subst e
  rw [leave_new (Nat.le_refl _) get_top hd, trunc_cons (Nat.le_refl _), trunc_self]
end MP

set_option maxHeartbeats 4000000
/-! What repr tells of plain rows. -/
namespace MP
open PySem
def tgs : List (List Nat) := [[101, 110, 100], [121, 101, 115], [110, 111], [105, 115], [97, 110, 100], [111, 114]]
mutual
def low : D → Bool
  | .non => true | .bl _ => false | .int i => decide (-5000 ≤ i) && decide (i ≤ 5000) | .str x => tgs.contains x
  | .tup ds => lows ds | .lst ds => lows ds | .dic _ _ => false | .ref _ => false | .scr _ => false
def lows : List D → Bool
  | [] => true
  | d :: ds => low d && lows ds
end
def shC (s : Str) : Prop := ∀ c ∈ s.cps.toList, c < 128
theorem shC.app {a b : Str} (ha : shC a) (hb : shC b) : shC (a ++ b) := fun c hc => by
  rcases PyProof.Rows.mem_cps_append.mp hc with q | q
  · exact ha c q
  · exact hb c q
def shB (s : Str) : Bool := s.cps.toList.all fun c => decide (c < 128)
theorem shB.of {s : Str} (h : shB s = true) : shC s := fun c hc => of_decide_eq_true (List.all_eq_true.mp h c hc)
theorem shC_from : ∀ (ts : List Str) (k : Nat) (acc : Str), shC acc → (∀ t ∈ ts, shC t) → shC (textFrom k acc ts)
  | [], _, _, ha, _ => ha
  | t :: ts, k, acc, ha, h => by
    show shC (textFrom (k + 1) (acc ++ (if k > 0 then ", " else "" : String) ++ t) ts)
    refine shC_from ts _ _ ((ha.app ?_).app (h t List.mem_cons_self)) fun u hu => h u (List.mem_cons_of_mem _ hu)
    split
    · exact shB.of (by decide +kernel)
    · exact shB.of (by decide +kernel)
theorem shC_list {ts : List Str} (h : ∀ t ∈ ts, shC t) : shC (listText ts) := (shC_from ts 0 _ (shB.of (by decide +kernel)) h).app (shB.of (by decide +kernel))
theorem shC_tuple {ts : List Str} (h : ∀ t ∈ ts, shC t) : shC (tupleText ts) := by
  unfold tupleText
  refine shC.app (shC.app (shB.of (by decide +kernel)) ?_) ?_
  · intro c hc
    rcases (PyProof.Rows.mem_join _ _ _).mp hc with ⟨t, ht, q⟩ | ⟨_, q⟩
    · exact h t ht c q
    · exact (shB.of (s := ((", " : String) : Str)) (by decide +kernel)) c q
  · split
    · exact shB.of (by decide +kernel)
    · exact shB.of (by decide +kernel)
def lfB (d : PyData) : Bool := shB d.shown && d.showable && PyData.leavesShort 8 d && d.canLay0
theorem lf_tags : ∀ x ∈ tgs, lfB (.str (strOfL x)) = true := by decide +kernel
structure Lf (d : PyData) : Prop where
  sh : shC d.shown
  sb : d.showable = true
  ls : PyData.leavesShort 8 d = true
  cl : d.canLay0 = true
theorem Lf.of {d : PyData} (h : lfB d = true) : Lf d := by
  unfold lfB at h
  simp only [Bool.and_eq_true] at h
  exact ⟨shB.of h.1.1.1, h.1.1.2, h.1.2, h.2⟩
theorem lf_int {i : Int} (h1 : -5000 ≤ i) (h2 : i ≤ 5000) : Lf (.int i) := by
  refine ⟨fun c hc => ?_, ?_, ?_, by simp [PyData.canLay0]⟩
  · refine Nat.lt_of_not_le fun hn => ?_
    exact PyProof.Rows.shown_int_free' (k := c) ⟨by omega, .inr (by omega)⟩ i hc
  · simp only [PyData.showable, decide_eq_true_eq]
    by_cases h0 : i.natAbs = 0
    · rw [h0]; decide
    · exact Nat.lt_of_lt_of_le ((Nat.log2_lt h0).mpr (show i.natAbs < 2 ^ 13 by show i.natAbs < 8192; omega)) (by omega)
  · simp only [PyData.leavesShort, decide_eq_true_eq]
    rw [PyData.shown_int]
    show (Str.ofString (toString i)).length ≤ 8
    rw [ofString_length]
    exact int_text_length_le10 (k := 7) (by omega) (by show i.natAbs < 10000000; omega)
structure Lfs (ds : List PyData) : Prop where
  sh : ∀ t ∈ PyData.shownAll ds, shC t
  sb : PyData.showableAll ds = true
  ls : PyData.leavesShortAll 8 ds = true
  cl : PyData.canLayAll0 ds = true
mutual
theorem low_lf : ∀ {d : D}, low d = true → Lf (toPy d)
  | .non, _ => Lf.of (by unfold toPy; decide +kernel)
  | .bl _, h => by unfold low at h; cases h
  | .int i, h => by
    unfold low at h
    simp only [Bool.and_eq_true, decide_eq_true_eq] at h
    unfold toPy
    exact lf_int h.1 h.2
  | .str x, h => by
    unfold low at h
    unfold toPy
    exact Lf.of (lf_tags x (by simpa using h))
  | .tup ds, h => by
    unfold low at h
    have r := lows_lf h
    unfold toPy
    exact ⟨by simp only [PyData.shown]; exact shC_tuple r.sh, by simp only [PyData.showable]; exact r.sb, by simp only [PyData.leavesShort]; exact r.ls, by simp only [PyData.canLay0]; exact r.cl⟩
  | .lst ds, h => by
    unfold low at h
    have r := lows_lf h
    unfold toPy
    exact ⟨by simp only [PyData.shown]; exact shC_list r.sh, by simp only [PyData.showable]; exact r.sb, by simp only [PyData.leavesShort]; exact r.ls, by simp only [PyData.canLay0]; exact r.cl⟩
  | .dic _ _, h => by unfold low at h; cases h
  | .ref _, h => by unfold low at h; cases h
  | .scr _, h => by unfold low at h; cases h
theorem lows_lf : ∀ {ds : List D}, lows ds = true → Lfs (toPys ds)
  | [], _ => by
    unfold toPys
    exact ⟨fun t h => by simp [PyData.shownAll] at h, rfl, rfl, rfl⟩
  | d :: ds, h => by
    unfold lows at h
    rw [Bool.and_eq_true] at h
    have a := low_lf h.1
    have b := lows_lf h.2
    unfold toPys
    refine ⟨fun t ht => ?_, ?_, ?_, ?_⟩
    · simp only [PyData.shownAll, List.mem_cons] at ht
      rcases ht with rfl | ht
      · exact a.sh
      · exact b.sh t ht
    · simp only [PyData.showableAll, a.sb, b.sb, Bool.and_self]
    · simp only [PyData.leavesShortAll, a.ls, b.ls, Bool.and_self]
    · simp only [PyData.canLayAll0, a.cl, b.cl, Bool.and_self]
end
mutual
theorem low_below {n : Nat} : ∀ {d : D}, low d = true → below n d = true
  | .non, _ => rfl
  | .bl _, _ => rfl
  | .int _, _ => rfl
  | .str _, _ => rfl
  | .tup ds, h => by unfold low at h; unfold below; exact lows_belows h
  | .lst ds, h => by unfold low at h; unfold below; exact lows_belows h
  | .dic _ _, h => by unfold low at h; cases h
  | .ref _, h => by unfold low at h; cases h
  | .scr _, h => by unfold low at h; cases h
theorem lows_belows {n : Nat} : ∀ {ds : List D}, lows ds = true → belows n ds = true
  | [], _ => by unfold belows; rfl
  | d :: ds, h => by
    unfold lows at h
    rw [Bool.and_eq_true] at h
    unfold belows
    rw [low_below h.1, lows_belows h.2]; rfl
end
def wg (d : D) : Nat := (toPy d).weight
def wgs (ds : List D) : Nat := PyData.weightAll (toPys ds)
theorem wg_tup {ds : List D} : wg (.tup ds) = wgs ds := by unfold wg wgs toPy; simp only [PyData.weight]
theorem wg_lst {ds : List D} : wg (.lst ds) = wgs ds := by unfold wg wgs toPy; simp only [PyData.weight]
theorem wgs_nil : wgs [] = 0 := by unfold wgs toPys; rfl
theorem wgs_cons {d : D} {ds : List D} : wgs (d :: ds) = wg d + 1 + wgs ds := by
  unfold wgs wg
  rw [toPys, PyData.weightAll]
theorem wg_str {x : List Nat} : wg (.str x) = x.length := by
  unfold wg toPy strOfL
  simp [PyData.weight]
theorem wg_int {i : Int} (h1 : -8000 ≤ i) (h2 : i ≤ 8000) : wg (.int i) ≤ 13 := by
  unfold wg toPy
  simp only [PyData.weight]
  split
  · omega
  · rename_i hn
    have h0 : i.natAbs ≠ 0 := by
      intro z
      have : i = 0 := by omega
      subst this
      exact hn rfl
    have : i.natAbs.log2 < 13 := (Nat.log2_lt h0).mpr (by show i.natAbs < 8192; omega)
    omega
theorem wg_bit {b : Int} (h : b = 0 ∨ b = 1) : wg (.int b) ≤ 1 := by rcases h with rfl | rfl <;> decide +kernel
theorem wgs_le {ds : List D} {K : Nat} (h : ∀ d ∈ ds, wg d ≤ K) : wgs ds ≤ ds.length * (K + 1) := by
  induction ds with
  | nil => rw [wgs_nil]; omega
  | cons d ds ih =>
    have h1 := h d List.mem_cons_self
    have h2 := ih fun x hx => h x (List.mem_cons_of_mem _ hx)
    rw [wgs_cons, List.length_cons, Nat.add_mul]
    omega
theorem lows_all {ds : List D} (h : ∀ d ∈ ds, low d = true) : lows ds = true := by
  induction ds with
  | nil => unfold lows; rfl
  | cons d ds ih =>
    unfold lows
    rw [h d List.mem_cons_self, ih fun x hx => h x (List.mem_cons_of_mem _ hx)]; rfl
theorem low_tup {ds : List D} (h : ∀ d ∈ ds, low d = true) : low (.tup ds) = true := by unfold low; exact lows_all h
theorem low_lst {ds : List D} (h : ∀ d ∈ ds, low d = true) : low (.lst ds) = true := by unfold low; exact lows_all h
theorem low_int {i : Int} (h1 : -5000 ≤ i) (h2 : i ≤ 5000) : low (.int i) = true := by
  unfold low
  rw [decide_eq_true h1, decide_eq_true h2]; rfl
theorem reprOk_low {d : D} (hl : low d = true) (hw : wg d ≤ 1600000) (hd : dep d ≤ 60) : reprOk d = true := by
  have L := low_lf hl
  unfold reprOk
  have h1 : lay d = true := L.cl
  rw [h1, L.sb, PyData.hasDict_of_canLay _ L.cl, decide_eq_true hd]
  simp only [Bool.not_false, Bool.and_self, Bool.true_and, decide_eq_true_eq]
  have := PyData.shown_le 8 (by omega) _ L.ls
  unfold wg at hw
  unfold SL
  omega
theorem repr_low {h : Hea} {d : D} (hl : low d = true) (hw : wg d ≤ 1600000) (hd : dep d ≤ 60) : bltH .repr h [d] = some (.str (shw d)) := by
  show reprH h d = _
  unfold reprH
  rw [show rsv h d = some d from frzN_below (low_below hl), Option.bind_some, if_pos (reprOk_low hl hw hd)]
theorem shw_ok {d : D} (hl : low d = true) : ((shw d).all fun c => decide (c < 1114112)) = true := by
  have L := (low_lf hl).sh
  rw [List.all_eq_true]
  exact fun c hc => decide_eq_true (by have := L c hc; omega)
/-- a list that stands alone in the top cell -/
theorem repr_top {h : Hea} {ds : List D} (hn : nbs ds = true) (hl : lows ds = true) (hw : wgs ds ≤ 1600000) (hd : dep (.lst ds) ≤ 39) : bltH .repr (.lst ds :: h) [.ref h.length] = some (.str (shw (.lst ds))) := by
  have l : low (.lst ds) = true := by unfold low; exact hl
  show reprH _ _ = _
  unfold reprH
  rw [show rsv (.lst ds :: h) (.ref h.length) = some (.lst ds) from rsv_ref get_top hn (by rw [dep_lst] at hd; omega), Option.bind_some, if_pos (reprOk_low l (by rw [wg_lst]; exact hw) (by omega))]
end MP

set_option maxHeartbeats 4000000
/-! Talks. -/
namespace MP
open PySem
inductive Tk where
  | en (i : Int)
  | hd (y : Bool) (L : List Nat) (a b : Tk)
namespace Tk
def d (p : Nat) : Tk → D
  | en i => .tup [.str [101, 110, 100], .int i]
  | hd y L a b => .tup [.str (if y = true then [121, 101, 115] else [110, 111]), .tup (wd p L), a.d p, b.d p]
def ok (p : Nat) : Tk → Nat → Prop
  | en i, _ => 0 ≤ i ∧ i < p
  | hd _ _ _ _, 0 => False
  | hd _ L a b, k + 1 => L.Sublist (List.range (2 ^ p)) ∧ a.ok p k ∧ b.ok p k
def lv : Tk → Nat
  | en _ => 1
  | hd _ _ a b => a.lv + b.lv
def dp : Tk → Nat
  | en _ => 0
  | hd _ _ a b => 1 + max a.dp b.dp
end Tk
theorem subl_len {p : Nat} {L : List Nat} (h : L.Sublist (List.range (2 ^ p))) : L.length ≤ 2 ^ p := by
  have := h.length_le
  rwa [List.length_range] at this
theorem subl_lt {p : Nat} {L : List Nat} (h : L.Sublist (List.range (2 ^ p))) : ∀ n ∈ L, n < 2 ^ p := fun n hn => List.mem_range.mp (h.subset hn)
theorem subl_nd {p : Nat} {L : List Nat} (h : L.Sublist (List.range (2 ^ p))) : L.Nodup := h.nodup List.nodup_range
theorem Tk.ok.mono {p : Nat} : ∀ {t : Tk} {k j : Nat}, t.ok p k → k ≤ j → t.ok p j
  | .en i, k, j, h, _ => by unfold Tk.ok at h ⊢; exact h
  | .hd y L a b, 0, j, h, _ => by unfold Tk.ok at h; exact h.elim
  | .hd y L a b, k + 1, 0, h, l => by omega
  | .hd y L a b, k + 1, j + 1, h, l => by
    unfold Tk.ok at h ⊢
    exact ⟨h.1, h.2.1.mono (by omega), h.2.2.mono (by omega)⟩
theorem nb_yn {y : Bool} : MP.nb (.str (if y = true then [121, 101, 115] else [110, 111])) = true := by cases y <;> decide +kernel
theorem nb_end : MP.nb (.str [101, 110, 100]) = true := by decide +kernel
theorem Tk.nb {p : Nat} : ∀ {t : Tk}, nb (t.d p) = true
  | .en i => nb_tupA fun d hd => by
    simp only [List.mem_cons, List.not_mem_nil, or_false] at hd
    rcases hd with rfl | rfl
    · exact nb_end
    · exact nb_int
  | .hd y L a b => nb_tupA fun d hd => by
    simp only [List.mem_cons, List.not_mem_nil, or_false] at hd
    rcases hd with rfl | rfl | rfl | rfl
    · exact nb_yn
    · exact wd_nb
    · exact a.nb
    · exact b.nb
theorem wd_dep2 {p : Nat} {L : List Nat} : dep (.tup (wd p L)) ≤ 2 := dep_tupA fun d hd => by
  obtain ⟨x, _, rfl⟩ := List.mem_map.mp hd
  rw [dep_dI]; omega
theorem Tk.ok.dep {p : Nat} : ∀ {t : Tk} {k : Nat}, t.ok p k → dep (t.d p) ≤ k + 2
  | .en i, k, h => by
    have : MP.dep (D.tup [.str [101, 110, 100], .int i]) ≤ 0 + 1 := dep_tupA fun d hd => by
      simp only [List.mem_cons, List.not_mem_nil, or_false] at hd
      rcases hd with rfl | rfl
      · rw [dep_str]; omega
      · rw [dep_int]; omega
    show MP.dep (D.tup [.str [101, 110, 100], .int i]) ≤ _
    omega
  | .hd y L a b, 0, h => by unfold Tk.ok at h; exact h.elim
  | .hd y L a b, k + 1, h => by
    unfold Tk.ok at h
    have h1 := h.2.1.dep
    have h2 := h.2.2.dep
    have := wd_dep2 (p := p) (L := L)
    exact dep_tupA fun d hd => by
      simp only [List.mem_cons, List.not_mem_nil, or_false] at hd
      rcases hd with rfl | rfl | rfl | rfl
      · rw [dep_str]; omega
      · omega
      · omega
      · omega
theorem Tk.ok.lv {p : Nat} : ∀ {t : Tk} {k : Nat}, t.ok p k → t.lv ≤ 2 ^ k
  | .en i, k, h => by unfold Tk.lv; exact Nat.two_pow_pos k
  | .hd y L a b, 0, h => by unfold Tk.ok at h; exact h.elim
  | .hd y L a b, k + 1, h => by
    unfold Tk.ok at h
    have h1 := h.2.1.lv
    have h2 := h.2.2.lv
    unfold Tk.lv
    rw [Nat.pow_succ]; omega
theorem Tk.ok.dp {p : Nat} : ∀ {t : Tk} {k : Nat}, t.ok p k → t.dp ≤ k
  | .en i, k, h => by unfold Tk.dp; omega
  | .hd y L a b, 0, h => by unfold Tk.ok at h; exact h.elim
  | .hd y L a b, k + 1, h => by
    unfold Tk.ok at h
    have h1 := h.2.1.dp
    have h2 := h.2.2.dp
    unfold Tk.dp; omega
theorem Tk.lv_pos : ∀ (t : Tk), 1 ≤ t.lv
  | .en _ => Nat.le_refl _
  | .hd _ _ a b => by have := a.lv_pos; unfold Tk.lv; omega
theorem Tk.bel {p n : Nat} {t : Tk} : below n (t.d p) = true := below_nb Tk.nb
theorem melt_tk {n p : Nat} {t : Tk} {h : Hea} : melt n (.ok (t.d p) h) = .ok (t.d p) h := melt_nb Tk.nb
theorem leave_tk {n p : Nat} {t : Tk} {h : Hea} : leave n (t.d p) h = .ok (t.d p) (trunc n h) := leave_nb Tk.nb
end MP

set_option maxHeartbeats 4000000
/-! Pens that are list cells. -/
namespace MP
open PySem
local macro_rules | `(tactic| trivial) => `(tactic| try simp -implicitDefEqProofs only [frL_nil, ↓frL_one, ↓frL_many, TupV_lst, ↓T_mth, walkN_dI, walkN_tup, walkN_lst, walkZ_tt, walkZ_tl, walkZ_lt, walkZ_ll, walkV_dI, len_dI, leave_dI, mk_dI, tuple_dI, isi_dI, TupV_dI, WP_ok, WP_nox, Nam_some, Opt_some, Opt_if, Ite_tt, Ite_ff, IntV_int, TupV_tup, setAll, BlV_bl, ↓Nxt_nx, ↓Nxt_rt, ↓Nxt_bk, ↓Nxt_ct, ↓Nxt_xc, ↓Bod_nx, ↓Bod_ct, ↓Bod_bk, ↓Bod_rt, ↓Bod_xc, ↓Ret_rt, ↓Ret_nx, ↓Ret_xc, ↓W_cst, ↓W_nam, ↓W_bin, ↓W_neg, ↓W_cmp, ↓W_land, ↓W_lor, ↓W_lnot, ↓W_ite, ↓W_nil, ↓W_cons, ↓W_tup, ↓W_lst, ↓W_dic, ↓W_idx, ↓W_ono, ↓W_oso, ↓W_slc, ↓W_cal, ↓W_blt, ↓W_mth, ↓W_val, ↓W_rng, ↓W_rng2, ↓W_zip, ↓W_enu, ↓W_glb, ↓W_lc, ↓W_lcc, ↓W_chn, ↓T_cmp, ↓T_chn, ↓T_land, ↓T_lor, ↓T_lnot, ↓T_ite, ↓T_cst, ↓T_nam, ↓T_idx, ↓T_cal, ↓T_blt, ↓T_bin, tru_bl, tru_int, B_nil, S_exp, S_set, S_sti, S_ifs, S_whl, S_for, S_ret, S_rtn, S_brk, S_cnt, S_unp, bop_add, bop_sub, bop_mul, bop_fdiv, bop_mod, bop_pow, bop_shl, bop_shr, bop_and, bop_or, bop_xor, bop_tup, bop_str, bop_smul, bop_rep, bop_cat, cop_eq_int, cop_ne_int, cop_lt_int, cop_le_int, cop_gt_int, cop_ge_int, cop_isB, cop_notB, mk_int', mk_bl', mk_non', mk_str', mk_tup', mk_ff, mk_tt, mk_ttD, bl_len_scr, bl_len_lst, bl_len_tup, bl_len_str, bl_abs, bl_max, bl_min, bl_int, bl_intb, bl_str, bl_tuple_lst, bl_tuple_tup, bl_list_lst, bl_list_tup, bl_all, bl_any, bl_sum, bl_isi, isi_int, isi_bl, isi_str, isi_tup, isi_lst, isi_non, isi_dic, omap_some, isTy, List.any_cons, List.any_nil, Bool.or_false, Bool.or_true, Bool.true_or, Bool.false_or, leave_int, leave_bl, leave_non, leave_str, walkV_lst, walkV_tup, wipeE, if_true, decide_true, decide_false, Int.cast_ofNat_Int, Int.natCast_zero, Int.natCast_one, Bool.false_eq_true, if_false, Bool.not_true, Bool.not_false, Nat.zero_le, true_and, and_true, ne_eq, not_false_eq_true, start, List.map_cons, List.map_nil, List.length_cons, List.length_nil, List.replicate, List.cons_append, List.nil_append, List.set_cons_zero, List.set_cons_succ, List.getElem?_cons_zero, List.getElem?_cons_succ, Nat.reduceSub, Nat.reduceAdd, Int.reduceEq, Int.reduceLE, Int.reduceLT, Int.reducePow, Int.reduceToNat, Nat.reduceLT, Nat.reduceLeDiff, Int.reduceNeg, Nat.reducePow, bindT_one, s_ii, s_ai, s_oi, s_aa, s_oa, slT, slL, ix_t0, ix_t1, ix_t2, ix_t3, ix_l0, ix_l1, ix_l2, melt_int, melt_bl, melt_str, melt_non, melt_tup, melt_lst, melt_dI, melt_scr, tru_str0, isN_cop, notN_cop, isNon, q_is_is, r_is_is, q_is_and, r_is_and, q_is_or, r_is_or, q_is_end, r_is_end, q_is_yes, r_is_yes, q_is_no, r_is_no, q_is_any, r_is_any, q_is_rising, r_is_rising, q_and_is, r_and_is, q_and_and, r_and_and, q_and_or, r_and_or, q_and_end, r_and_end, q_and_yes, r_and_yes, q_and_no, r_and_no, q_and_any, r_and_any, q_and_rising, r_and_rising, q_or_is, r_or_is, q_or_and, r_or_and, q_or_or, r_or_or, q_or_end, r_or_end, q_or_yes, r_or_yes, q_or_no, r_or_no, q_or_any, r_or_any, q_or_rising, r_or_rising, q_end_is, r_end_is, q_end_and, r_end_and, q_end_or, r_end_or, q_end_end, r_end_end, q_end_yes, r_end_yes, q_end_no, r_end_no, q_end_any, r_end_any, q_end_rising, r_end_rising, q_yes_is, r_yes_is, q_yes_and, r_yes_and, q_yes_or, r_yes_or, q_yes_end, r_yes_end, q_yes_yes, r_yes_yes, q_yes_no, r_yes_no, q_yes_any, r_yes_any, q_yes_rising, r_yes_rising, q_no_is, r_no_is, q_no_and, r_no_and, q_no_or, r_no_or, q_no_end, r_no_end, q_no_yes, r_no_yes, q_no_no, r_no_no, q_no_any, r_no_any, q_no_rising, r_no_rising, q_any_is, r_any_is, q_any_and, r_any_and, q_any_or, r_any_or, q_any_end, r_any_end, q_any_yes, r_any_yes, q_any_no, r_any_no, q_any_any, r_any_any, q_any_rising, r_any_rising, q_rising_is, r_rising_is, q_rising_and, r_rising_and, q_rising_or, r_rising_or, q_rising_end, r_rising_end, q_rising_yes, r_rising_yes, q_rising_no, r_rising_no, q_rising_any, r_rising_any, q_rising_rising, r_rising_rising])
local macro_rules | `(tactic| bv_omega) => `(tactic| first | omega | (unfold SL; omega) | exact ⟨R62_of (by omega) (by omega), R62_of (by omega) (by omega)⟩ | exact smallL (by omega) (by omega) | exact smallR (by omega) (by omega) | exact rcv_join | exact rcv_end | (simp only [List.length_cons, List.length_nil, List.length_append, List.length_map]; unfold SL; omega))
local macro_rules | `(tactic| infer_instance) => `(tactic| repeat (first | (simp -implicitDefEqProofs only [frL_nil, ↓frL_one, ↓frL_many, TupV_lst, ↓T_mth, walkN_dI, walkN_tup, walkN_lst, walkZ_tt, walkZ_tl, walkZ_lt, walkZ_ll, walkV_dI, len_dI, leave_dI, mk_dI, tuple_dI, isi_dI, TupV_dI, WP_ok, WP_nox, Nam_some, Opt_some, Opt_if, Ite_tt, Ite_ff, IntV_int, TupV_tup, setAll, BlV_bl, ↓Nxt_nx, ↓Nxt_rt, ↓Nxt_bk, ↓Nxt_ct, ↓Nxt_xc, ↓Bod_nx, ↓Bod_ct, ↓Bod_bk, ↓Bod_rt, ↓Bod_xc, ↓Ret_rt, ↓Ret_nx, ↓Ret_xc, ↓W_cst, ↓W_nam, ↓W_bin, ↓W_neg, ↓W_cmp, ↓W_land, ↓W_lor, ↓W_lnot, ↓W_ite, ↓W_nil, ↓W_cons, ↓W_tup, ↓W_lst, ↓W_dic, ↓W_idx, ↓W_ono, ↓W_oso, ↓W_slc, ↓W_cal, ↓W_blt, ↓W_mth, ↓W_val, ↓W_rng, ↓W_rng2, ↓W_zip, ↓W_enu, ↓W_glb, ↓W_lc, ↓W_lcc, ↓W_chn, ↓T_cmp, ↓T_chn, ↓T_land, ↓T_lor, ↓T_lnot, ↓T_ite, ↓T_cst, ↓T_nam, ↓T_idx, ↓T_cal, ↓T_blt, ↓T_bin, tru_bl, tru_int, B_nil, S_exp, S_set, S_sti, S_ifs, S_whl, S_for, S_ret, S_rtn, S_brk, S_cnt, S_unp, bop_add, bop_sub, bop_mul, bop_fdiv, bop_mod, bop_pow, bop_shl, bop_shr, bop_and, bop_or, bop_xor, bop_tup, bop_str, bop_smul, bop_rep, bop_cat, cop_eq_int, cop_ne_int, cop_lt_int, cop_le_int, cop_gt_int, cop_ge_int, cop_isB, cop_notB, mk_int', mk_bl', mk_non', mk_str', mk_tup', mk_ff, mk_tt, mk_ttD, bl_len_scr, bl_len_lst, bl_len_tup, bl_len_str, bl_abs, bl_max, bl_min, bl_int, bl_intb, bl_str, bl_tuple_lst, bl_tuple_tup, bl_list_lst, bl_list_tup, bl_all, bl_any, bl_sum, bl_isi, isi_int, isi_bl, isi_str, isi_tup, isi_lst, isi_non, isi_dic, omap_some, isTy, List.any_cons, List.any_nil, Bool.or_false, Bool.or_true, Bool.true_or, Bool.false_or, leave_int, leave_bl, leave_non, leave_str, walkV_lst, walkV_tup, wipeE, if_true, decide_true, decide_false, Int.cast_ofNat_Int, Int.natCast_zero, Int.natCast_one, Bool.false_eq_true, if_false, Bool.not_true, Bool.not_false, Nat.zero_le, true_and, and_true, ne_eq, not_false_eq_true, start, List.map_cons, List.map_nil, List.length_cons, List.length_nil, List.replicate, List.cons_append, List.nil_append, List.set_cons_zero, List.set_cons_succ, List.getElem?_cons_zero, List.getElem?_cons_succ, Nat.reduceSub, Nat.reduceAdd, Int.reduceEq, Int.reduceLE, Int.reduceLT, Int.reducePow, Int.reduceToNat, Nat.reduceLT, Nat.reduceLeDiff, Int.reduceNeg, Nat.reducePow, bindT_one, s_ii, s_ai, s_oi, s_aa, s_oa, slT, slL, ix_t0, ix_t1, ix_t2, ix_t3, ix_l0, ix_l1, ix_l2, melt_int, melt_bl, melt_str, melt_non, melt_tup, melt_lst, melt_dI, melt_scr, tru_str0, isN_cop, notN_cop, isNon, q_is_is, r_is_is, q_is_and, r_is_and, q_is_or, r_is_or, q_is_end, r_is_end, q_is_yes, r_is_yes, q_is_no, r_is_no, q_is_any, r_is_any, q_is_rising, r_is_rising, q_and_is, r_and_is, q_and_and, r_and_and, q_and_or, r_and_or, q_and_end, r_and_end, q_and_yes, r_and_yes, q_and_no, r_and_no, q_and_any, r_and_any, q_and_rising, r_and_rising, q_or_is, r_or_is, q_or_and, r_or_and, q_or_or, r_or_or, q_or_end, r_or_end, q_or_yes, r_or_yes, q_or_no, r_or_no, q_or_any, r_or_any, q_or_rising, r_or_rising, q_end_is, r_end_is, q_end_and, r_end_and, q_end_or, r_end_or, q_end_end, r_end_end, q_end_yes, r_end_yes, q_end_no, r_end_no, q_end_any, r_end_any, q_end_rising, r_end_rising, q_yes_is, r_yes_is, q_yes_and, r_yes_and, q_yes_or, r_yes_or, q_yes_end, r_yes_end, q_yes_yes, r_yes_yes, q_yes_no, r_yes_no, q_yes_any, r_yes_any, q_yes_rising, r_yes_rising, q_no_is, r_no_is, q_no_and, r_no_and, q_no_or, r_no_or, q_no_end, r_no_end, q_no_yes, r_no_yes, q_no_no, r_no_no, q_no_any, r_no_any, q_no_rising, r_no_rising, q_any_is, r_any_is, q_any_and, r_any_and, q_any_or, r_any_or, q_any_end, r_any_end, q_any_yes, r_any_yes, q_any_no, r_any_no, q_any_any, r_any_any, q_any_rising, r_any_rising, q_rising_is, r_rising_is, q_rising_and, r_rising_and, q_rising_or, r_rising_or, q_rising_end, r_rising_end, q_rising_yes, r_rising_yes, q_rising_no, r_rising_no, q_rising_any, r_rising_any, q_rising_rising, r_rising_rising, ↓B_cons]) | (with_reducible refine And.intro ?_ ?_; focus bv_omega)))
def Pn (G : Cell → Prop) (h : Hea) (a : Nat) : Prop := ∃ c, get h a = some c ∧ G c
section
variable {G : Cell → Prop} {h : Hea} {a : Nat} {c : Cell}
theorem Pn.up (p : Pn G h a) : Pn G (c :: h) a := by
  obtain ⟨x, g, q⟩ := p
  exact ⟨x, by rw [get_und (get_lt g)]; exact g, q⟩
theorem Pn.lt (p : Pn G h a) : a < h.length := by
  obtain ⟨x, g, q⟩ := p
  exact get_lt g
theorem Pn.down (l : a < h.length) (p : Pn G (c :: h) a) : Pn G h a := by
  obtain ⟨x, g, q⟩ := p
  exact ⟨x, by rwa [get_und l] at g, q⟩
theorem Pn.pre {pre : Hea} (p : Pn G h a) : Pn G (pre ++ h) a := by
  obtain ⟨x, g, q⟩ := p
  exact ⟨x, by rw [get_pre (get_lt g)]; exact g, q⟩
theorem Pn.self (p : Pn G h a) : ∃ c, h = put h a c := by
  obtain ⟨x, g, q⟩ := p
  refine ⟨x, ?_⟩
  clear q
  induction h with
  | nil => rfl
  | cons y h ih =>
    unfold put
    unfold MP.get at g
    split at g
    · rename_i e; cases g; rw [if_pos e]
    · rename_i e; rw [if_neg e, ← ih g]
end
def Drw (G : Cell → Prop) (C : CT) (g : Nat) : Prop := ∀ (a : Nat) (many : Int) (h : Hea), Pn G h a → 0 < many → many < 1073741824 →
  WP (C g [.ref a, .int many] h) (fun d h' => ∃ i : Int, d = .int i ∧ (0 ≤ i ∧ i < many ∧ (∃ c, h' = put h a c) ∧ Pn G h' a)) NX
section
variable {G : Cell → Prop} {C : CT} {g a n : Nat} {many : Int} {h : Hea} {Q : D → Hea → Prop} {E : Xc → Hea → Prop}
theorem Drw.call (P : Drw G C g) (p : Pn G h a) (h0 : 0 < many) (h1 : many < 1073741824)
    (k : ∀ (i : Int) (h' : Hea), 0 ≤ i → i < many → (∃ c, h' = put h a c) → Pn G h' a → Q (.int i) h') : WP (melt n (C g [.ref a, .int many] h)) Q E :=
  W_meltI ((P a many h p h0 h1).nx fun d h' q => q) fun i h' ⟨h1, h2, h3, h4⟩ => k i h' h1 h2 h3 h4
theorem Drw.callP (P : Drw G C g) (pre : Hea) (p : Pn G h a) (h0 : 0 < many) (h1 : many < 1073741824)
    (k : ∀ (i : Int) (h' : Hea), 0 ≤ i → i < many → (∃ c, h' = put h a c) → Pn G h' a → Q (.int i) (pre ++ h')) : WP (melt n (C g [.ref a, .int many] (pre ++ h))) Q E := by
  have la := p.lt
  refine P.call (h := pre ++ h) p.pre h0 h1 fun i h' i0 i1 ⟨c, e⟩ ⟨x, g', q'⟩ => ?_
  rw [put_pre la] at e
  subst e
  rw [get_pre (by rw [put_len]; exact la)] at g'
  exact k i _ i0 i1 ⟨c, rfl⟩ ⟨x, g', q'⟩
theorem Drw.callU (P : Drw G C g) {c0 : Cell} (p : Pn G h a) (h0 : 0 < many) (h1 : many < 1073741824)
    (k : ∀ (i : Int) (h' : Hea), 0 ≤ i → i < many → (∃ c, h' = put h a c) → Pn G h' a → Q (.int i) (c0 :: h')) : WP (melt n (C g [.ref a, .int many] (c0 :: h))) Q E :=
  P.callP [c0] p h0 h1 k
end
/-- a pen over a script's first cells -/
def penLF : Fn := ⟨1, 1, false,
   [.ret (.lst true (.cons (.slc false (.nam 0) .none (.some (.cst (.int 63)))) (.cons (.cst (.int 0)) (.cons (.cst (.int 0)) .nil))))]⟩
def drawLF : Fn := ⟨2, 7, false,
   [.unp [4, 5, 6] (.nam 0),
    .ifs (.cmp .gt (.nam 6) (.cst (.int 0)))
     [.sti (.nam 0) (.cst (.int 2)) (.bin false .fdiv (.nam 6) (.nam 1)),
      .ret (.bin true .mod (.nam 6) (.nam 1))]
     [],
    .sti (.nam 0) (.cst (.int 1)) (.bin false .add (.nam 5) (.cst (.int 1))),
    .set 2 (.cst (.int 29)),
    .ifs (.cmp .gt (.blt false .len (.cons (.nam 4) .nil)) (.cst (.int 0)))
     [.set 2 (.idx (.nam 4) (.bin false .mod (.nam 5) (.blt false .len (.cons (.nam 4) .nil))))]
     [],
    .ifs (.land (.cmp .lt (.nam 5) (.blt false .len (.cons (.nam 4) .nil))) (.cmp .ge (.blt false .abs (.cons (.nam 2) .nil)) (.bin false .pow (.cst (.int 10)) (.cst (.int 18)))))
     [.sti (.nam 0) (.cst (.int 2)) (.bin false .fdiv (.blt false .abs (.cons (.nam 2) .nil)) (.nam 1)),
      .ret (.bin true .mod (.blt false .abs (.cons (.nam 2) .nil)) (.nam 1))]
     [],
    .set 3 (.bin false .mod (.bin false .mul (.bin false .add (.bin false .add (.bin false .mod (.nam 2) (.cst (.int 2147483629))) (.bin false .mul (.cst (.int 50333)) (.nam 5))) (.cst (.int 71))) (.cst (.int 48271))) (.cst (.int 2147483647))),
    .set 3 (.bin false .mod (.bin false .add (.bin false .add (.bin false .mul (.nam 3) (.nam 3)) (.bin false .mul (.cst (.int 39373)) (.nam 3))) (.nam 5)) (.cst (.int 2147483587))),
    .set 3 (.bin false .mod (.bin false .add (.bin false .mul (.nam 3) (.cst (.int 69621))) (.bin false .mul (.cst (.int 7)) (.nam 5))) (.cst (.int 2147483563))),
    .ret (.bin true .mod (.bin false .fdiv (.bin false .mod (.bin false .mul (.nam 3) (.nam 3)) (.cst (.int 2147483629))) (.cst (.int 64))) (.nam 1))]⟩
def GL (c : Cell) : Prop := ∃ (ns : List Int) (i l : Int), c = .lst [.lst (ns.map .int), .int i, .int l] ∧ ns.length ≤ 63 ∧ 0 ≤ i
theorem fm_small {u k : Int} (k0 : 0 < k) (k1 : k < 9223372036854775808) : small (u.fmod k) = true := small_of (by have := Int.fmod_nonneg_of_pos u k0; omega) (by have := Int.fmod_lt_of_pos u k0; omega)
theorem fm_l {u k : Int} {j : Int} (k0 : 0 < k) (k1 : k < 9223372036854775808) : (small (u.fmod k) || small j) = true := by rw [fm_small k0 k1]; rfl
theorem fm_r {u k : Int} {j : Int} (k0 : 0 < k) (k1 : k < 9223372036854775808) : (small j || small (u.fmod k)) = true := by rw [fm_small k0 k1, Bool.or_true]
theorem ix_lI {h : Hea} {xs : List Int} {i : Int} (h0 : 0 ≤ i) (h1 : i < xs.length) : ixH h (.lst (xs.map .int)) (.int i) = some (.int (xs[i.toNat]?.getD 0)) := by
  have l : i.toNat < xs.length := by omega
  rw [ix_lst (k := i.toNat) (plc_int h0 (by rw [List.length_map]; omega)), List.getElem?_map, List.getElem?_eq_getElem l]
  rfl
theorem drawL_ok {C : CT} {a : Nat} {many : Int} {h : Hea} {E : Xc → Hea → Prop} (p : Pn GL h a) (m0 : 0 < many) (m1 : many < 1073741824) :
    WP (exF C drawLF [.ref a, .int many] h) (fun d h' => ∃ i : Int, d = .int i ∧ (0 ≤ i ∧ i < many ∧ (∃ c, h' = put h a c) ∧ Pn GL h' a)) E := by
  obtain ⟨_, g, ns, i, l, rfl, hl, hi⟩ := p
  have la : a < h.length := get_lt g
  have fin : ∀ (x : Int) (c : Cell), GL c → (∃ j : Int, D.int (x.fmod many) = .int j ∧ (0 ≤ j ∧ j < many ∧ (∃ c', trunc h.length (put h a c) = put h a c') ∧ Pn GL (trunc h.length (put h a c)) a)) := fun x c gc => by
    rw [trunc_put]
    exact ⟨_, rfl, Int.fmod_nonneg_of_pos _ m0, Int.fmod_lt_of_pos _ m0, ⟨_, rfl⟩, _, get_put_same la, gc⟩
  refine WP_exF rfl ?_
  simp only [drawLF]
  infer_instance
  rw [TupV_ref g]
  infer_instance
  refine IteD (fun hc => ?_) (fun hc => ?_)
  · infer_instance
    rw [sti_ok (i := 2) (k := 2) g rfl below_int]
    infer_instance
    exact fin _ _ ⟨ns, i, _, rfl, hl, hi⟩
  · infer_instance
    rw [sti_ok (i := 1) (k := 1) g rfl below_int]
    infer_instance
    generalize hh : put h a _ = h1
    have g1 : MP.get h1 a = some (.lst [.lst (ns.map .int), .int (i + 1), .int l]) := by rw [← hh]; exact get_put_same la
    have tail : ∀ (c : Int) (z : Option D), WP (exB C (drawLF.body.drop 6) [some (.ref a), some (.int many), some (.int c), z, some (.lst (ns.map .int)), some (.int i), some (.int l)] h1) (Ret h.length (fun d h' => ∃ i : Int, d = .int i ∧ (0 ≤ i ∧ i < many ∧ (∃ c, h' = put h a c) ∧ Pn GL h' a)) E) (fun _ _ => False) := by
      intro c z
      simp only [drawLF, List.drop]
      rw [← hh]
      have fm := @fm_small
      infer_instance
      refine ⟨?_, ?_⟩
      · rw [fm_small (by omega) (by omega)]; rfl
      infer_instance
      refine ⟨?_, ?_⟩
      · rw [fm_small (by omega) (by omega)]; rfl
      infer_instance
      exact fin _ _ ⟨ns, i + 1, l, rfl, hl, by omega⟩
    refine Ite.cut (fun ρ h' => (∃ c : Int, ρ = [some (.ref a), some (.int many), some (.int c), none, some (.lst (ns.map .int)), some (.int i), some (.int l)]) ∧ h' = h1) (fun hc => ?_) (fun hc => ?_) ?_
    · have hlen : (ns.map D.int).length = ns.length := List.length_map ..
      rw [hlen] at hc
      have hc := of_decide_eq_true hc
      infer_instance
      rw [hlen]
      have hm := Int.fmod_nonneg_of_pos i (show (0 : Int) < (ns.length : Nat) by omega)
      have hm2 := Int.fmod_lt_of_pos i (show (0 : Int) < (ns.length : Nat) by omega)
      rw [ix_lI hm hm2]
      infer_instance
      exact ⟨_, rfl⟩
    · infer_instance
      exact ⟨_, rfl⟩
    · rintro ρ h2 ⟨⟨c, rfl⟩, rfl⟩
      trivial
      rw [B_cons]
      trivial
      refine IteD (fun hc => ?_) (fun hc => ?_)
      · trivial
        refine IteD (fun hc => ?_) (fun hc => ?_)
        · trivial
          rw [B_cons]
          trivial
          refine ⟨⟨by omega, by omega, by omega⟩, ?_⟩
          rw [sti_ok (i := 2) (k := 2) g1 rfl below_int, ← hh, put_put]
          infer_instance
          exact fin _ _ ⟨ns, i + 1, _, rfl, hl, by omega⟩
        · trivial
          exact tail _ _
      · trivial
        exact tail _ _
theorem Drw.mkL {Fs : List Fn} {g : Nat} (e : Fs[g]? = some drawLF) {N : Nat} (hN : 1 ≤ N) : Drw GL (run Fs N) g := fun a many h p h0 h1 => by
  obtain ⟨k, rfl⟩ : ∃ k, N = k + 1 := ⟨N - 1, by omega⟩
  rw [run_at e]
  exact drawL_ok p h0 h1
theorem penL_at {Fs : List Fn} {g : Nat} (e : Fs[g]? = some penLF) {N : Nat} (hN : 1 ≤ N) {ns : List Int} {h : Hea} : WP (run Fs N g [.scr ns] h) (fun d h' => d = .ref h.length ∧ Pn GL h' h.length ∧ ∃ c, h' = c :: h) NX := by
  obtain ⟨k, rfl⟩ : ∃ k, N = k + 1 := ⟨N - 1, by omega⟩
  rw [run_at e]
  refine WP_exF rfl ?_
  simp only [penLF]
  infer_instance
  rw [show slH h (.scr ns) none (some 63) = some (.lst ((cut ns none (some 63)).map .int)) by
    show some (D.lst (cut (ns.map .int) none (some 63))) = _
    congr 2
    unfold cut
    rw [List.length_map, List.map_take, List.map_drop]]
  infer_instance
  have hb : belows h.length [D.lst ((cut ns none (some 63)).map .int), .int 0, .int 0] = true := by
    refine belows_nb (nbs_all fun d hd => ?_)
    simp only [List.mem_cons, List.not_mem_nil, or_false] at hd
    rcases hd with rfl | rfl | rfl
    · exact nb_lstA fun d hd => by obtain ⟨i, _, rfl⟩ := List.mem_map.mp hd; exact nb_int
    · exact nb_int
    · exact nb_int
  rw [leave_new (Nat.le_refl _) get_top hb, trunc_cons (Nat.le_refl _), trunc_self]
  infer_instance
  refine ⟨⟨_, get_top, _, _, _, rfl, ?_, by omega⟩, _, rfl⟩
  unfold cut sIx
  simp only [List.length_take, List.length_drop]
  rw [if_neg (by omega), show Int.toNat 63 = 63 from rfl]
  omega
/-- a pen of three numbers -/
def drawTF : Fn := ⟨2, 4, false,
   [.ifs (.cmp .gt (.idx (.nam 0) (.cst (.int 0))) (.cst (.int 0)))
     [.set 3 (.bin false .mod (.idx (.nam 0) (.cst (.int 0))) (.nam 1)),
      .sti (.nam 0) (.cst (.int 0)) (.bin false .fdiv (.idx (.nam 0) (.cst (.int 0))) (.nam 1)),
      .ret (.nam 3)]
     [],
    .sti (.nam 0) (.cst (.int 2)) (.bin false .add (.idx (.nam 0) (.cst (.int 2))) (.cst (.int 1))),
    .set 2 (.bin false .mod (.bin false .add (.bin false .add (.bin false .mul (.idx (.nam 0) (.cst (.int 1))) (.cst (.int 48271))) (.bin false .mul (.idx (.nam 0) (.cst (.int 2))) (.cst (.int 39373)))) (.cst (.int 11))) (.cst (.int 2147483647))),
    .set 2 (.bin false .mod (.bin false .mul (.nam 2) (.bin false .add (.bin false .mod (.nam 2) (.cst (.int 65521))) (.idx (.nam 0) (.cst (.int 2))))) (.cst (.int 2147483629))),
    .ret (.bin true .mod (.bin false .fdiv (.nam 2) (.cst (.int 64))) (.nam 1))]⟩
def GT (c : Cell) : Prop := ∃ l n k : Int, c = .lst [.int l, .int n, .int k]
theorem drawT_ok {C : CT} {a : Nat} {many : Int} {h : Hea} {E : Xc → Hea → Prop} (p : Pn GT h a) (m0 : 0 < many) (m1 : many < 1073741824) :
    WP (exF C drawTF [.ref a, .int many] h) (fun d h' => ∃ i : Int, d = .int i ∧ (0 ≤ i ∧ i < many ∧ (∃ c, h' = put h a c) ∧ Pn GT h' a)) E := by
  obtain ⟨_, g, l, n, k, rfl⟩ := p
  have la : a < h.length := get_lt g
  have fin : ∀ (x : Int) (c : Cell), GT c → (∃ j : Int, D.int (x.fmod many) = .int j ∧ (0 ≤ j ∧ j < many ∧ (∃ c', trunc h.length (put h a c) = put h a c') ∧ Pn GT (trunc h.length (put h a c)) a)) := fun x c gc => by
    rw [trunc_put]
    exact ⟨_, rfl, Int.fmod_nonneg_of_pos _ m0, Int.fmod_lt_of_pos _ m0, ⟨_, rfl⟩, _, get_put_same la, gc⟩
  have i0 : ixH h (.ref a) (.int 0) = some (.int l) := ix_ref (i := 0) (k := 0) g rfl
  have i2 : ixH h (.ref a) (.int 2) = some (.int k) := ix_ref (i := 2) (k := 2) g rfl
  refine WP_exF rfl ?_
  simp only [drawTF]
  infer_instance
  rw [i0]
  infer_instance
  refine IteD (fun hc => ?_) (fun hc => ?_)
  · infer_instance
    rw [i0]
    infer_instance
    rw [i0]
    infer_instance
    rw [sti_ok (i := 0) (k := 0) g rfl below_int]
    infer_instance
    exact fin _ _ ⟨_, n, k, rfl⟩
  · infer_instance
    rw [i2]
    infer_instance
    rw [sti_ok (i := 2) (k := 2) g rfl below_int]
    have g1 : MP.get (put h a (.lst [.int l, .int n, .int (k + 1)])) a = some (.lst [.int l, .int n, .int (k + 1)]) := get_put_same la
    have j1 : ixH (put h a (.lst [.int l, .int n, .int (k + 1)])) (.ref a) (.int 1) = some (.int n) := ix_ref (i := 1) (k := 1) g1 rfl
    have j2 : ixH (put h a (.lst [.int l, .int n, .int (k + 1)])) (.ref a) (.int 2) = some (.int (k + 1)) := ix_ref (i := 2) (k := 2) g1 rfl
    infer_instance
    rw [j1]
    infer_instance
    rw [j2]
    infer_instance
    rw [j2]
    infer_instance
    refine ⟨fm_l (by omega) (by omega), ?_⟩
    infer_instance
    exact fin _ _ ⟨l, n, k + 1, rfl⟩
theorem Drw.mkT {Fs : List Fn} {g : Nat} (e : Fs[g]? = some drawTF) {N : Nat} (hN : 1 ≤ N) : Drw GT (run Fs N) g := fun a many h p h0 h1 => by
  obtain ⟨k, rfl⟩ : ∃ k, N = k + 1 := ⟨N - 1, by omega⟩
  rw [run_at e]
  exact drawT_ok p h0 h1
end MP

set_option maxHeartbeats 4000000
/-! All words as the laws make them; is a word among some; pairs with a list in them. -/
namespace MP
open PySem
local macro_rules | `(tactic| trivial) => `(tactic| try simp -implicitDefEqProofs only [frL_nil, ↓frL_one, ↓frL_many, TupV_lst, ↓T_mth, walkN_dI, walkN_tup, walkN_lst, walkZ_tt, walkZ_tl, walkZ_lt, walkZ_ll, walkV_dI, len_dI, leave_dI, mk_dI, tuple_dI, isi_dI, TupV_dI, WP_ok, WP_nox, Nam_some, Opt_some, Opt_if, Ite_tt, Ite_ff, IntV_int, TupV_tup, setAll, BlV_bl, ↓Nxt_nx, ↓Nxt_rt, ↓Nxt_bk, ↓Nxt_ct, ↓Nxt_xc, ↓Bod_nx, ↓Bod_ct, ↓Bod_bk, ↓Bod_rt, ↓Bod_xc, ↓Ret_rt, ↓Ret_nx, ↓Ret_xc, ↓W_cst, ↓W_nam, ↓W_bin, ↓W_neg, ↓W_cmp, ↓W_land, ↓W_lor, ↓W_lnot, ↓W_ite, ↓W_nil, ↓W_cons, ↓W_tup, ↓W_lst, ↓W_dic, ↓W_idx, ↓W_ono, ↓W_oso, ↓W_slc, ↓W_cal, ↓W_blt, ↓W_mth, ↓W_val, ↓W_rng, ↓W_rng2, ↓W_zip, ↓W_enu, ↓W_glb, ↓W_lc, ↓W_lcc, ↓W_chn, ↓T_cmp, ↓T_chn, ↓T_land, ↓T_lor, ↓T_lnot, ↓T_ite, ↓T_cst, ↓T_nam, ↓T_idx, ↓T_cal, ↓T_blt, ↓T_bin, tru_bl, tru_int, B_nil, S_exp, S_set, S_sti, S_ifs, S_whl, S_for, S_ret, S_rtn, S_brk, S_cnt, S_unp, bop_add, bop_sub, bop_mul, bop_fdiv, bop_mod, bop_pow, bop_shl, bop_shr, bop_and, bop_or, bop_xor, bop_tup, bop_str, bop_smul, bop_rep, bop_cat, cop_eq_int, cop_ne_int, cop_lt_int, cop_le_int, cop_gt_int, cop_ge_int, cop_isB, cop_notB, mk_int', mk_bl', mk_non', mk_str', mk_tup', mk_ff, mk_tt, mk_ttD, bl_len_scr, bl_len_lst, bl_len_tup, bl_len_str, bl_abs, bl_max, bl_min, bl_int, bl_intb, bl_str, bl_tuple_lst, bl_tuple_tup, bl_list_lst, bl_list_tup, bl_all, bl_any, bl_sum, bl_isi, isi_int, isi_bl, isi_str, isi_tup, isi_lst, isi_non, isi_dic, omap_some, isTy, List.any_cons, List.any_nil, Bool.or_false, Bool.or_true, Bool.true_or, Bool.false_or, leave_int, leave_bl, leave_non, leave_str, walkV_lst, walkV_tup, wipeE, if_true, decide_true, decide_false, Int.cast_ofNat_Int, Int.natCast_zero, Int.natCast_one, Bool.false_eq_true, if_false, Bool.not_true, Bool.not_false, Nat.zero_le, true_and, and_true, ne_eq, not_false_eq_true, start, List.map_cons, List.map_nil, List.length_cons, List.length_nil, List.replicate, List.cons_append, List.nil_append, List.set_cons_zero, List.set_cons_succ, List.getElem?_cons_zero, List.getElem?_cons_succ, Nat.reduceSub, Nat.reduceAdd, Int.reduceEq, Int.reduceLE, Int.reduceLT, Int.reducePow, Int.reduceToNat, Nat.reduceLT, Nat.reduceLeDiff, Int.reduceNeg, Nat.reducePow, bindT_one, s_ii, s_ai, s_oi, s_aa, s_oa, slT, slL, ix_t0, ix_t1, ix_t2, ix_t3, ix_l0, ix_l1, ix_l2, melt_int, melt_bl, melt_str, melt_non, melt_tup, melt_lst, melt_dI, melt_scr, tru_str0, isN_cop, notN_cop, isNon, q_is_is, r_is_is, q_is_and, r_is_and, q_is_or, r_is_or, q_is_end, r_is_end, q_is_yes, r_is_yes, q_is_no, r_is_no, q_is_any, r_is_any, q_is_rising, r_is_rising, q_and_is, r_and_is, q_and_and, r_and_and, q_and_or, r_and_or, q_and_end, r_and_end, q_and_yes, r_and_yes, q_and_no, r_and_no, q_and_any, r_and_any, q_and_rising, r_and_rising, q_or_is, r_or_is, q_or_and, r_or_and, q_or_or, r_or_or, q_or_end, r_or_end, q_or_yes, r_or_yes, q_or_no, r_or_no, q_or_any, r_or_any, q_or_rising, r_or_rising, q_end_is, r_end_is, q_end_and, r_end_and, q_end_or, r_end_or, q_end_end, r_end_end, q_end_yes, r_end_yes, q_end_no, r_end_no, q_end_any, r_end_any, q_end_rising, r_end_rising, q_yes_is, r_yes_is, q_yes_and, r_yes_and, q_yes_or, r_yes_or, q_yes_end, r_yes_end, q_yes_yes, r_yes_yes, q_yes_no, r_yes_no, q_yes_any, r_yes_any, q_yes_rising, r_yes_rising, q_no_is, r_no_is, q_no_and, r_no_and, q_no_or, r_no_or, q_no_end, r_no_end, q_no_yes, r_no_yes, q_no_no, r_no_no, q_no_any, r_no_any, q_no_rising, r_no_rising, q_any_is, r_any_is, q_any_and, r_any_and, q_any_or, r_any_or, q_any_end, r_any_end, q_any_yes, r_any_yes, q_any_no, r_any_no, q_any_any, r_any_any, q_any_rising, r_any_rising, q_rising_is, r_rising_is, q_rising_and, r_rising_and, q_rising_or, r_rising_or, q_rising_end, r_rising_end, q_rising_yes, r_rising_yes, q_rising_no, r_rising_no, q_rising_any, r_rising_any, q_rising_rising, r_rising_rising])
local macro_rules | `(tactic| bv_omega) => `(tactic| first | omega | (unfold SL; omega) | exact ⟨R62_of (by omega) (by omega), R62_of (by omega) (by omega)⟩ | exact smallL (by omega) (by omega) | exact smallR (by omega) (by omega) | exact rcv_join | exact rcv_end | (simp only [List.length_cons, List.length_nil, List.length_append, List.length_map]; unfold SL; omega))
local macro_rules | `(tactic| infer_instance) => `(tactic| repeat (first | (simp -implicitDefEqProofs only [frL_nil, ↓frL_one, ↓frL_many, TupV_lst, ↓T_mth, walkN_dI, walkN_tup, walkN_lst, walkZ_tt, walkZ_tl, walkZ_lt, walkZ_ll, walkV_dI, len_dI, leave_dI, mk_dI, tuple_dI, isi_dI, TupV_dI, WP_ok, WP_nox, Nam_some, Opt_some, Opt_if, Ite_tt, Ite_ff, IntV_int, TupV_tup, setAll, BlV_bl, ↓Nxt_nx, ↓Nxt_rt, ↓Nxt_bk, ↓Nxt_ct, ↓Nxt_xc, ↓Bod_nx, ↓Bod_ct, ↓Bod_bk, ↓Bod_rt, ↓Bod_xc, ↓Ret_rt, ↓Ret_nx, ↓Ret_xc, ↓W_cst, ↓W_nam, ↓W_bin, ↓W_neg, ↓W_cmp, ↓W_land, ↓W_lor, ↓W_lnot, ↓W_ite, ↓W_nil, ↓W_cons, ↓W_tup, ↓W_lst, ↓W_dic, ↓W_idx, ↓W_ono, ↓W_oso, ↓W_slc, ↓W_cal, ↓W_blt, ↓W_mth, ↓W_val, ↓W_rng, ↓W_rng2, ↓W_zip, ↓W_enu, ↓W_glb, ↓W_lc, ↓W_lcc, ↓W_chn, ↓T_cmp, ↓T_chn, ↓T_land, ↓T_lor, ↓T_lnot, ↓T_ite, ↓T_cst, ↓T_nam, ↓T_idx, ↓T_cal, ↓T_blt, ↓T_bin, tru_bl, tru_int, B_nil, S_exp, S_set, S_sti, S_ifs, S_whl, S_for, S_ret, S_rtn, S_brk, S_cnt, S_unp, bop_add, bop_sub, bop_mul, bop_fdiv, bop_mod, bop_pow, bop_shl, bop_shr, bop_and, bop_or, bop_xor, bop_tup, bop_str, bop_smul, bop_rep, bop_cat, cop_eq_int, cop_ne_int, cop_lt_int, cop_le_int, cop_gt_int, cop_ge_int, cop_isB, cop_notB, mk_int', mk_bl', mk_non', mk_str', mk_tup', mk_ff, mk_tt, mk_ttD, bl_len_scr, bl_len_lst, bl_len_tup, bl_len_str, bl_abs, bl_max, bl_min, bl_int, bl_intb, bl_str, bl_tuple_lst, bl_tuple_tup, bl_list_lst, bl_list_tup, bl_all, bl_any, bl_sum, bl_isi, isi_int, isi_bl, isi_str, isi_tup, isi_lst, isi_non, isi_dic, omap_some, isTy, List.any_cons, List.any_nil, Bool.or_false, Bool.or_true, Bool.true_or, Bool.false_or, leave_int, leave_bl, leave_non, leave_str, walkV_lst, walkV_tup, wipeE, if_true, decide_true, decide_false, Int.cast_ofNat_Int, Int.natCast_zero, Int.natCast_one, Bool.false_eq_true, if_false, Bool.not_true, Bool.not_false, Nat.zero_le, true_and, and_true, ne_eq, not_false_eq_true, start, List.map_cons, List.map_nil, List.length_cons, List.length_nil, List.replicate, List.cons_append, List.nil_append, List.set_cons_zero, List.set_cons_succ, List.getElem?_cons_zero, List.getElem?_cons_succ, Nat.reduceSub, Nat.reduceAdd, Int.reduceEq, Int.reduceLE, Int.reduceLT, Int.reducePow, Int.reduceToNat, Nat.reduceLT, Nat.reduceLeDiff, Int.reduceNeg, Nat.reducePow, bindT_one, s_ii, s_ai, s_oi, s_aa, s_oa, slT, slL, ix_t0, ix_t1, ix_t2, ix_t3, ix_l0, ix_l1, ix_l2, melt_int, melt_bl, melt_str, melt_non, melt_tup, melt_lst, melt_dI, melt_scr, tru_str0, isN_cop, notN_cop, isNon, q_is_is, r_is_is, q_is_and, r_is_and, q_is_or, r_is_or, q_is_end, r_is_end, q_is_yes, r_is_yes, q_is_no, r_is_no, q_is_any, r_is_any, q_is_rising, r_is_rising, q_and_is, r_and_is, q_and_and, r_and_and, q_and_or, r_and_or, q_and_end, r_and_end, q_and_yes, r_and_yes, q_and_no, r_and_no, q_and_any, r_and_any, q_and_rising, r_and_rising, q_or_is, r_or_is, q_or_and, r_or_and, q_or_or, r_or_or, q_or_end, r_or_end, q_or_yes, r_or_yes, q_or_no, r_or_no, q_or_any, r_or_any, q_or_rising, r_or_rising, q_end_is, r_end_is, q_end_and, r_end_and, q_end_or, r_end_or, q_end_end, r_end_end, q_end_yes, r_end_yes, q_end_no, r_end_no, q_end_any, r_end_any, q_end_rising, r_end_rising, q_yes_is, r_yes_is, q_yes_and, r_yes_and, q_yes_or, r_yes_or, q_yes_end, r_yes_end, q_yes_yes, r_yes_yes, q_yes_no, r_yes_no, q_yes_any, r_yes_any, q_yes_rising, r_yes_rising, q_no_is, r_no_is, q_no_and, r_no_and, q_no_or, r_no_or, q_no_end, r_no_end, q_no_yes, r_no_yes, q_no_no, r_no_no, q_no_any, r_no_any, q_no_rising, r_no_rising, q_any_is, r_any_is, q_any_and, r_any_and, q_any_or, r_any_or, q_any_end, r_any_end, q_any_yes, r_any_yes, q_any_no, r_any_no, q_any_any, r_any_any, q_any_rising, r_any_rising, q_rising_is, r_rising_is, q_rising_and, r_rising_and, q_rising_or, r_rising_or, q_rising_end, r_rising_end, q_rising_yes, r_rising_yes, q_rising_no, r_rising_no, q_rising_any, r_rising_any, q_rising_rising, r_rising_rising, ↓B_cons]) | (with_reducible refine And.intro ?_ ?_; focus bv_omega)))
theorem bitsN_inj {p n m : Nat} (hn : n < 2 ^ p) (hm : m < 2 ^ p) (e : bits p n = bits p m) : n = m := by
  refine Nat.eq_of_testBit_eq fun j => ?_
  by_cases hj : j < p
  · have h1 := congrArg (fun xs : List Int => xs[(p - 1 - j)]?.getD 0) e
    simp only [bits] at h1
    rw [List.getElem?_map, List.getElem?_map, List.getElem?_range (by omega)] at h1
    simp only [Option.map_some, Option.getD_some] at h1
    rw [show p - 1 - (p - 1 - j) = j by omega] at h1
    rw [Nat.testBit_eq_decide_div_mod_eq, Nat.testBit_eq_decide_div_mod_eq]
    have : n / 2 ^ j % 2 = m / 2 ^ j % 2 := by exact_mod_cast h1
    rw [this]
  · have : 2 ^ p ≤ 2 ^ j := Nat.pow_le_pow_right (by omega) (by omega)
    rw [Nat.testBit_lt_two_pow (by omega), Nat.testBit_lt_two_pow (by omega)]
theorem bits_two {k n : Nat} {b : Nat} (hb : b < 2) : bits (k + 1) (2 * n + b) = bits k n ++ [(b : Int)] := by
  unfold bits
  rw [List.range_succ, List.map_append]
  congr 1
  · refine List.map_congr_left fun i hi => ?_
    have hi := List.mem_range.mp hi
    rw [show k + 1 - 1 - i = (k - 1 - i) + 1 by omega, Nat.pow_succ, Nat.mul_comm (2 ^ (k - 1 - i)) 2, ← Nat.div_div_eq_div_mul, show (2 * n + b) / 2 = n by omega]
  · simp only [List.map_cons, List.map_nil, Nat.add_sub_cancel, Nat.sub_self, Nat.pow_zero, Nat.div_one, show (2 * n + b) % 2 = b by omega]
/-- the first words of so many places -/
def wordsT (p m : Nat) : List D := (List.range m).map fun n => dI (bits p n)
theorem wordsT_all {p : Nat} : wordsT p (2 ^ p) = wordsD p := rfl
theorem wordsT_two {k i : Nat} : wordsT (k + 1) (2 * i) ++ [.tup ((bits k i).map .int ++ [.int 0]), .tup ((bits k i).map .int ++ [.int 1])] = wordsT (k + 1) (2 * (i + 1)) := by
  have e0 := bits_two (k := k) (n := i) (b := 0) (by omega)
  have e1 := bits_two (k := k) (n := i) (b := 1) (by omega)
  unfold wordsT
  rw [show 2 * (i + 1) = 2 * i + 1 + 1 by omega, List.range_succ, List.range_succ, List.map_append, List.map_append]
  simp only [List.map_cons, List.map_nil, List.append_assoc]
  rw [e1, show bits (k + 1) (2 * i) = bits k i ++ [((0 : Nat) : Int)] from e0]
  unfold dI
  rw [List.map_append, List.map_append]
  rfl
theorem wordsT_len {p m : Nat} : (wordsT p m).length = m := by unfold wordsT; simp
theorem wordsT_bel {n p m : Nat} : belows n (wordsT p m) = true := belows_nb (nbs_all fun d hd => by obtain ⟨x, _, rfl⟩ := List.mem_map.mp hd; exact nb_dI)
theorem wordsT_nb {p m : Nat} : nbs (wordsT p m) = true := nbs_all fun d hd => by obtain ⟨x, _, rfl⟩ := List.mem_map.mp hd; exact nb_dI
theorem words0 : wordsD 0 = [.tup []] := rfl
theorem wd_range {p : Nat} : wd p (List.range (2 ^ p)) = wordsD p := rfl
/-- by adding rows -/
def allAF : Fn := ⟨1, 5, false,
   [.set 1 (.lst false (.cons (.tup .nil) .nil)),
    .for_ (.one 2) (.rng (.nam 0))
     [.set 3 (.lst false .nil),
      .for_ (.one 4) (.val (.nam 1))
       [.set 3 (.bin false .add (.nam 3) (.lst false (.cons (.bin false .add (.nam 4) (.tup (.cons (.cst (.int 0)) .nil))) (.cons (.bin false .add (.nam 4) (.tup (.cons (.cst (.int 1)) .nil))) .nil))))],
      .set 1 (.nam 3)],
    .ret (.nam 1)]⟩
theorem allA_at {Fs : List Fn} {g : Nat} (e : Fs[g]? = some allAF) {p N : Nat} (hp : p ≤ 10) (hN : 1 ≤ N) {h : Hea} : run Fs N g [.int p] h = .ok (.lst (wordsD p)) h := by
  obtain ⟨k, rfl⟩ : ∃ k, N = k + 1 := ⟨N - 1, by omega⟩
  refine WP.eq ?_
  rw [run_at e]
  refine WP_exF rfl ?_
  simp only [allAF]
  infer_instance
  refine frL_rng (fun i ρ h' => (∃ x y z, ρ = [some (.int p), some (.lst (wordsD i)), x, y, z]) ∧ h' = h) ⟨⟨_, _, _, rfl⟩, rfl⟩ ?_ ?_
  · rintro i hi ρ h' ⟨⟨x, y, z, rfl⟩, rfl⟩
    have hz : 2 ^ i ≤ 2 ^ 10 := Nat.pow_le_pow_right (by omega) (by omega)
    infer_instance
    refine frL_val (fun j ρ h2 => (∃ z, ρ = [some (.int p), some (.lst (wordsD i)), some (.int (0 + (i : Int))), some (.lst (wordsT (i + 1) (2 * j))), z]) ∧ h2 = h') ⟨⟨_, rfl⟩, rfl⟩ ?_ ?_
    · rintro j hj ρ h' ⟨⟨z, rfl⟩, rfl⟩
      have hj' : j < 2 ^ i := by rw [wordsD_len] at hj; exact hj
      have ew : (wordsD i)[j] = .tup ((bits i j).map .int) := by simp [wordsD, dI]
      rw [ew]
      infer_instance
      rw [List.length_map, bits_len]
      infer_instance
      rw [wordsT_len]
      infer_instance
      rw [wordsT_two]
      exact ⟨_, rfl⟩
    · rintro ρ h' ⟨⟨z, rfl⟩, rfl⟩
      infer_instance
      rw [wordsD_len, show wordsT (i + 1) (2 * 2 ^ i) = wordsD (i + 1) by unfold wordsD wordsT; rw [Nat.pow_succ, Nat.mul_comm]]
      exact ⟨_, _, _, rfl⟩
  · rintro ρ h' ⟨⟨x, y, z, rfl⟩, rfl⟩
    rw [Int.sub_zero, Int.toNat_natCast]
    infer_instance
    rw [leave_lst (belows_nb (nbs_all fun d hd => by obtain ⟨x, _, rfl⟩ := List.mem_map.mp hd; exact nb_dI)), trunc_self]
    infer_instance
/-- by making rows longer -/
def allEF : Fn := ⟨1, 5, false,
   [.set 1 (.lst false (.cons (.tup .nil) .nil)),
    .for_ (.one 2) (.rng (.nam 0))
     [.set 3 (.lst true .nil),
      .for_ (.one 4) (.val (.nam 1))
       [.exp (.mth false .extend (.nam 3) (.cons (.lst false (.cons (.bin false .add (.nam 4) (.tup (.cons (.cst (.int 0)) .nil))) (.cons (.bin false .add (.nam 4) (.tup (.cons (.cst (.int 1)) .nil))) .nil))) .nil))],
      .set 1 (.nam 3)],
    .ret (.nam 1)]⟩
theorem allE_at {Fs : List Fn} {g : Nat} (e : Fs[g]? = some allEF) {p N : Nat} (h1 : 1 ≤ p) (hp : p ≤ 10) (hN : 1 ≤ N) {h : Hea} : run Fs N g [.int p] h = .ok (.ref h.length) (.lst (wordsD p) :: h) := by
  obtain ⟨k, rfl⟩ : ∃ k, N = k + 1 := ⟨N - 1, by omega⟩
  refine WP.eqL ?_
  rw [run_at e]
  refine WP_exF rfl ?_
  simp only [allEF]
  infer_instance
  refine frL_rng (fun i ρ h' => (∃ v x y z, ρ = [some (.int p), some v, x, y, z] ∧ ((i = 0 ∧ v = .lst (wordsD 0)) ∨ ∃ a, v = .ref a ∧ h.length ≤ a ∧ get h' a = some (.lst (wordsD i)))) ∧ ∃ pre, h' = pre ++ h) ⟨⟨_, _, _, _, rfl, .inl ⟨rfl, rfl⟩⟩, [], rfl⟩ ?_ ?_
  · rintro i hi ρ h' ⟨⟨v, x, y, z, rfl, hv⟩, pre, rfl⟩
    have hz : 2 ^ i ≤ 2 ^ 10 := Nat.pow_le_pow_right (by omega) (by omega)
    generalize hh : pre ++ h = h1 at hv
    have hl : h.length ≤ h1.length := by rw [← hh, List.length_append]; omega
    have step : ∀ (j : Nat) (hj : j < (wordsD i).length) (ρ : Env) (h' : Hea), ((∃ z, ρ = [some (.int p), some v, some (.int (0 + (i : Int))), some (.ref h1.length), z]) ∧ h' = .lst (wordsT (i + 1) (2 * j)) :: h1) → ∀ Q E,
        WP (exB (run Fs k) [.exp (.mth false .extend (.nam 3) (.cons (.lst false (.cons (.bin false .add (.nam 4) (.tup (.cons (.cst (.int 0)) .nil))) (.cons (.bin false .add (.nam 4) (.tup (.cons (.cst (.int 1)) .nil))) .nil))) .nil))] (ρ.set 4 (some (wordsD i)[j])) h') (Bod (fun ρ h' => (∃ z, ρ = [some (.int p), some v, some (.int (0 + (i : Int))), some (.ref h1.length), z]) ∧ h' = .lst (wordsT (i + 1) (2 * (j + 1))) :: h1) Q) E := by
      rintro j hj ρ h' ⟨⟨z, rfl⟩, rfl⟩ Q E
      have hj' : j < 2 ^ i := by rw [wordsD_len] at hj; exact hj
      have ew : (wordsD i)[j] = .tup ((bits i j).map .int) := by simp [wordsD, dI]
      rw [ew]
      infer_instance
      refine ⟨rcv_of get_top (fun z => nomatch z), ?_⟩
      infer_instance
      rw [List.length_map, bits_len]
      infer_instance
      rw [ext_ok get_top (es := [.tup ((bits i j).map .int ++ [.int 0]), .tup ((bits i j).map .int ++ [.int 1])]) rfl (by rw [wordsT_len]; simp; bv_omega) ?hb, put_top, wordsT_two]
      · infer_instance
        exact ⟨_, rfl⟩
      case hb =>
        refine belows_nb (nbs_all fun d hd => ?_)
        simp only [List.mem_cons, List.not_mem_nil, or_false] at hd
        rcases hd with rfl | rfl
        · exact nb_tupA fun d hd => by
            rcases List.mem_append.mp hd with q | q
            · obtain ⟨i, _, rfl⟩ := List.mem_map.mp q; exact nb_int
            · have : d = .int 0 := by simpa using q
              subst this; exact nb_int
        · exact nb_tupA fun d hd => by
            rcases List.mem_append.mp hd with q | q
            · obtain ⟨i, _, rfl⟩ := List.mem_map.mp q; exact nb_int
            · have : d = .int 1 := by simpa using q
              subst this; exact nb_int
    have fin : ∀ (ρ : Env) (h' : Hea), ((∃ z, ρ = [some (.int p), some v, some (.int (0 + (i : Int))), some (.ref h1.length), z]) ∧ h' = .lst (wordsT (i + 1) (2 * (wordsD i).length)) :: h1) → ∃ v x y z, ρ = [some (.int p), some v, x, y, z] ∧ y = some (.ref h1.length) ∧ (∃ w, ρ.set 1 (some (.ref h1.length)) = [some (.int p), some (.ref h1.length), x, y, w]) ∧ get h' h1.length = some (.lst (wordsD (i + 1))) ∧ ∃ pre', h' = pre' ++ h := by
      rintro ρ h' ⟨⟨z, rfl⟩, rfl⟩
      refine ⟨_, _, _, _, rfl, rfl, ⟨_, rfl⟩, ?_, .lst (wordsT (i + 1) (2 * (wordsD i).length)) :: pre, by rw [← hh]; rfl⟩
      rw [get_top, wordsD_len, show wordsT (i + 1) (2 * 2 ^ i) = wordsD (i + 1) by unfold wordsD wordsT; rw [Nat.pow_succ, Nat.mul_comm]]
    trivial
    rw [B_cons]
    trivial
    rw [B_cons]
    trivial
    have done : ∀ (ρ : Env) (h' : Hea), ((∃ z, ρ = [some (.int p), some v, some (.int (0 + (i : Int))), some (.ref h1.length), z]) ∧ h' = .lst (wordsT (i + 1) (2 * (wordsD i).length)) :: h1) → ∀ Q E,
        WP (exB (run Fs k) [.set 1 (.nam 3)] ρ h') (Bod (fun ρ h' => (∃ v x y z, ρ = [some (.int p), some v, x, y, z] ∧ ((i + 1 = 0 ∧ v = .lst (wordsD 0)) ∨ ∃ a, v = .ref a ∧ h.length ≤ a ∧ get h' a = some (.lst (wordsD (i + 1))))) ∧ ∃ pre, h' = pre ++ h) Q) E := by
      intro ρ h' hI Q E
      obtain ⟨v', x', y', z', r1, r2, _, r4, r5⟩ := fin ρ h' hI
      subst r1 r2
      infer_instance
      exact ⟨⟨_, _, _, _, rfl, .inr ⟨_, rfl, hl, r4⟩⟩, r5⟩
    rcases hv with ⟨rfl, rfl⟩ | ⟨a, rfl, la, ga⟩
    · trivial
      refine frL_val (ds := wordsD 0) (fun j ρ h' => (∃ z, ρ = [some (.int p), some (.lst (wordsD 0)), some (.int (0 + ((0 : Nat) : Int))), some (.ref h1.length), z]) ∧ h' = .lst (wordsT (0 + 1) (2 * j)) :: h1) ⟨⟨_, rfl⟩, rfl⟩ ?_ ?_
      · intro j hj ρ h' hI
        exact step j hj ρ h' hI _ _
      · intro ρ h' hI
        exact done ρ h' hI _ _
    · have gk : MP.get (.lst [] :: h1) a = some (.lst (wordsD i)) := by rw [get_und (get_lt ga)]; exact ga
      rw [show walkV (.lst [] :: h1) (.ref a) = some ⟨(List.range (wordsD i).length).map (.at a ·), some (a, (wordsD i).length)⟩ by show (match MP.get (.lst [] :: h1) a with | some (.lst ds) => some (Walk.mk ((List.range ds.length).map (.at a ·)) (some (a, ds.length))) | _ => none) = _; rw [gk]]
      trivial
      refine frL_cell (ds := wordsD i) (fun j ρ h' => (∃ z, ρ = [some (.int p), some (.ref a), some (.int (0 + (i : Int))), some (.ref h1.length), z]) ∧ h' = .lst (wordsT (i + 1) (2 * j)) :: h1) ⟨⟨_, rfl⟩, rfl⟩ ?_ ?_ ?_
      · rintro j ρ h' ⟨_, rfl⟩
        rw [get_und (get_lt ga)]; exact ga
      · intro j hj ρ h' hI
        exact step j hj ρ h' hI _ _
      · intro ρ h' hI
        exact done ρ h' hI _ _
  · rintro ρ h' ⟨⟨v, x, y, z, rfl, hv⟩, pre, rfl⟩
    rw [Int.sub_zero, Int.toNat_natCast] at hv
    rcases hv with ⟨z0, _⟩ | ⟨a, rfl, la, ga⟩
    · omega
    · infer_instance
      rw [leave_new la ga (belows_nb (nbs_all fun d hd => by obtain ⟨x, _, rfl⟩ := List.mem_map.mp hd; exact nb_dI)), trunc_pre (Nat.le_refl _), trunc_self]
      infer_instance
/-- is a word among some -/
theorem inn_wd {h : Hea} {p n : Nat} {L : List Nat} (hn : n < 2 ^ p) (hL : ∀ m ∈ L, m < 2 ^ p) : inH h (dI (bits p n)) (.tup (wd p L)) = some (decide (n ∈ L)) := by
  unfold inH
  rw [rsv_nb nb_dI, rsv_nb wd_nb]
  have l1 : lay (D.tup (wd p L)) = true := lay_nb wd_nb
  simp only [lay_nb (nb_dI (xs := bits p n)), l1, dep_dI, Bool.true_and, show decide (1 ≤ 64) = true from rfl, if_true]
  congr 1
  rw [Bool.eq_iff_iff, List.any_eq_true, decide_eq_true_iff]
  constructor
  · rintro ⟨d, hd, e⟩
    obtain ⟨m, hm, rfl⟩ := List.mem_map.mp hd
    have := (eqv_nb nb_dI nb_dI).mp e
    rw [bitsN_inj hn (hL m hm) (dI_inj this).symm]
    exact hm
  · intro hm
    exact ⟨_, List.mem_map.mpr ⟨n, hm, rfl⟩, (eqv_nb nb_dI nb_dI).mpr rfl⟩
theorem inn_at {h : Hea} {p n : Nat} {L : List Nat} (hn : n < 2 ^ p) (hL : ∀ m ∈ L, m < 2 ^ p) : cop .inn h (dI (bits p n)) (.tup (wd p L)) = some (.bl (decide (n ∈ L))) := by rw [cop_inn, inn_wd hn hL]; rfl
theorem eq_bits {h : Hea} {p n m : Nat} (hn : n < 2 ^ p) (hm : m < 2 ^ p) : cop .eq h (dI (bits p n)) (dI (bits p m)) = some (.bl (decide (n = m))) := by
  by_cases e : n = m
  · subst e
    rw [eq_refl (rsv_nb nb_dI) (rsv_nb nb_dI) nb_dI (by rw [dep_dI]; omega), decide_eq_true rfl]
  · rw [eq_nb nb_dI nb_dI (by rw [dep_dI]; omega) (fun z => e (bitsN_inj hn hm (dI_inj z))), decide_eq_false e]
/-- a pair of a list in a cell and a number -/
theorem frz_pr {h : Hea} {n a : Nat} {ds : List D} {i : Int} (la : n ≤ a) (g : get h a = some (.lst ds)) (hn : nbs ds = true) (hk : PyData.depthAll (toPys ds) < 30) : frzN h n (.tup [.ref a, .int i]) = some (.tup [.lst ds, .int i]) := by
  unfold frzN
  rw [if_neg (by unfold below belows below; simp; omega)]
  show ((do let x ← frz 39 h n (.ref a); let y ← frz 39 h n (.int i); pure [x, y]) : Option (List D)).map D.tup = _
  have e : frz 39 h n (.ref a) = some (.lst ds) := by
    show (if a < n then some (D.ref a) else match MP.get h a with
      | some (.lst ds) => (ds.mapM (frz 38 h n)).map D.lst
      | some (.dic ks vs) => (ks.mapM (frz 38 h n)).bind fun ks => (vs.mapM (frz 38 h n)).map fun vs => .dic ks vs
      | _ => none) = _
    rw [if_neg (by omega), g]
    show (ds.mapM (frz 38 h n)).map D.lst = _
    rw [frzs_nb hn (by omega)]; rfl
  rw [e]; rfl
theorem cnt_wd {n : Nat} {L : List Nat} (hd : L.Nodup) : ((L.filter fun m => decide (m = n)).map fun _ => (1 : Int)).sum = if n ∈ L then 1 else 0 := by
  induction L with
  | nil => simp
  | cons m L ih =>
    have hd := List.nodup_cons.mp hd
    have ih := ih hd.2
    rw [List.filter_cons]
    by_cases e : m = n
    · subst e
      rw [if_neg hd.1] at ih
      simp only [decide_true, if_true, List.map_cons, List.sum_cons, ih, List.mem_cons, true_or]
      rfl
    · rw [if_neg (by simpa using e), ih]
      simp only [List.mem_cons, show (n = m) = False from propext ⟨fun q => e q.symm, False.elim⟩, false_or]
end MP

set_option maxHeartbeats 4000000
/-! Words drawn into two sorts. -/
namespace MP
open PySem
local macro_rules | `(tactic| trivial) => `(tactic| try simp -implicitDefEqProofs only [frL_nil, ↓frL_one, ↓frL_many, TupV_lst, ↓T_mth, walkN_dI, walkN_tup, walkN_lst, walkZ_tt, walkZ_tl, walkZ_lt, walkZ_ll, walkV_dI, len_dI, leave_dI, mk_dI, tuple_dI, isi_dI, TupV_dI, WP_ok, WP_nox, Nam_some, Opt_some, Opt_if, Ite_tt, Ite_ff, IntV_int, TupV_tup, setAll, BlV_bl, ↓Nxt_nx, ↓Nxt_rt, ↓Nxt_bk, ↓Nxt_ct, ↓Nxt_xc, ↓Bod_nx, ↓Bod_ct, ↓Bod_bk, ↓Bod_rt, ↓Bod_xc, ↓Ret_rt, ↓Ret_nx, ↓Ret_xc, ↓W_cst, ↓W_nam, ↓W_bin, ↓W_neg, ↓W_cmp, ↓W_land, ↓W_lor, ↓W_lnot, ↓W_ite, ↓W_nil, ↓W_cons, ↓W_tup, ↓W_lst, ↓W_dic, ↓W_idx, ↓W_ono, ↓W_oso, ↓W_slc, ↓W_cal, ↓W_blt, ↓W_mth, ↓W_val, ↓W_rng, ↓W_rng2, ↓W_zip, ↓W_enu, ↓W_glb, ↓W_lc, ↓W_lcc, ↓W_chn, ↓T_cmp, ↓T_chn, ↓T_land, ↓T_lor, ↓T_lnot, ↓T_ite, ↓T_cst, ↓T_nam, ↓T_idx, ↓T_cal, ↓T_blt, ↓T_bin, tru_bl, tru_int, B_nil, S_exp, S_set, S_sti, S_ifs, S_whl, S_for, S_ret, S_rtn, S_brk, S_cnt, S_unp, bop_add, bop_sub, bop_mul, bop_fdiv, bop_mod, bop_pow, bop_shl, bop_shr, bop_and, bop_or, bop_xor, bop_tup, bop_str, bop_smul, bop_rep, bop_cat, cop_eq_int, cop_ne_int, cop_lt_int, cop_le_int, cop_gt_int, cop_ge_int, cop_isB, cop_notB, mk_int', mk_bl', mk_non', mk_str', mk_tup', mk_ff, mk_tt, mk_ttD, bl_len_scr, bl_len_lst, bl_len_tup, bl_len_str, bl_abs, bl_max, bl_min, bl_int, bl_intb, bl_str, bl_tuple_lst, bl_tuple_tup, bl_list_lst, bl_list_tup, bl_all, bl_any, bl_sum, bl_isi, isi_int, isi_bl, isi_str, isi_tup, isi_lst, isi_non, isi_dic, omap_some, isTy, List.any_cons, List.any_nil, Bool.or_false, Bool.or_true, Bool.true_or, Bool.false_or, leave_int, leave_bl, leave_non, leave_str, walkV_lst, walkV_tup, wipeE, if_true, decide_true, decide_false, Int.cast_ofNat_Int, Int.natCast_zero, Int.natCast_one, Bool.false_eq_true, if_false, Bool.not_true, Bool.not_false, Nat.zero_le, true_and, and_true, ne_eq, not_false_eq_true, start, List.map_cons, List.map_nil, List.length_cons, List.length_nil, List.replicate, List.cons_append, List.nil_append, List.set_cons_zero, List.set_cons_succ, List.getElem?_cons_zero, List.getElem?_cons_succ, Nat.reduceSub, Nat.reduceAdd, Int.reduceEq, Int.reduceLE, Int.reduceLT, Int.reducePow, Int.reduceToNat, Nat.reduceLT, Nat.reduceLeDiff, Int.reduceNeg, Nat.reducePow, bindT_one, s_ii, s_ai, s_oi, s_aa, s_oa, slT, slL, ix_t0, ix_t1, ix_t2, ix_t3, ix_l0, ix_l1, ix_l2, melt_int, melt_bl, melt_str, melt_non, melt_tup, melt_lst, melt_dI, melt_scr, tru_str0, isN_cop, notN_cop, isNon, q_is_is, r_is_is, q_is_and, r_is_and, q_is_or, r_is_or, q_is_end, r_is_end, q_is_yes, r_is_yes, q_is_no, r_is_no, q_is_any, r_is_any, q_is_rising, r_is_rising, q_and_is, r_and_is, q_and_and, r_and_and, q_and_or, r_and_or, q_and_end, r_and_end, q_and_yes, r_and_yes, q_and_no, r_and_no, q_and_any, r_and_any, q_and_rising, r_and_rising, q_or_is, r_or_is, q_or_and, r_or_and, q_or_or, r_or_or, q_or_end, r_or_end, q_or_yes, r_or_yes, q_or_no, r_or_no, q_or_any, r_or_any, q_or_rising, r_or_rising, q_end_is, r_end_is, q_end_and, r_end_and, q_end_or, r_end_or, q_end_end, r_end_end, q_end_yes, r_end_yes, q_end_no, r_end_no, q_end_any, r_end_any, q_end_rising, r_end_rising, q_yes_is, r_yes_is, q_yes_and, r_yes_and, q_yes_or, r_yes_or, q_yes_end, r_yes_end, q_yes_yes, r_yes_yes, q_yes_no, r_yes_no, q_yes_any, r_yes_any, q_yes_rising, r_yes_rising, q_no_is, r_no_is, q_no_and, r_no_and, q_no_or, r_no_or, q_no_end, r_no_end, q_no_yes, r_no_yes, q_no_no, r_no_no, q_no_any, r_no_any, q_no_rising, r_no_rising, q_any_is, r_any_is, q_any_and, r_any_and, q_any_or, r_any_or, q_any_end, r_any_end, q_any_yes, r_any_yes, q_any_no, r_any_no, q_any_any, r_any_any, q_any_rising, r_any_rising, q_rising_is, r_rising_is, q_rising_and, r_rising_and, q_rising_or, r_rising_or, q_rising_end, r_rising_end, q_rising_yes, r_rising_yes, q_rising_no, r_rising_no, q_rising_any, r_rising_any, q_rising_rising, r_rising_rising])
local macro_rules | `(tactic| bv_omega) => `(tactic| first | omega | (unfold SL; omega) | exact ⟨R62_of (by omega) (by omega), R62_of (by omega) (by omega)⟩ | exact smallL (by omega) (by omega) | exact smallR (by omega) (by omega) | exact rcv_join | exact rcv_end | (simp only [List.length_cons, List.length_nil, List.length_append, List.length_map]; unfold SL; omega))
local macro_rules | `(tactic| infer_instance) => `(tactic| repeat (first | (simp -implicitDefEqProofs only [frL_nil, ↓frL_one, ↓frL_many, TupV_lst, ↓T_mth, walkN_dI, walkN_tup, walkN_lst, walkZ_tt, walkZ_tl, walkZ_lt, walkZ_ll, walkV_dI, len_dI, leave_dI, mk_dI, tuple_dI, isi_dI, TupV_dI, WP_ok, WP_nox, Nam_some, Opt_some, Opt_if, Ite_tt, Ite_ff, IntV_int, TupV_tup, setAll, BlV_bl, ↓Nxt_nx, ↓Nxt_rt, ↓Nxt_bk, ↓Nxt_ct, ↓Nxt_xc, ↓Bod_nx, ↓Bod_ct, ↓Bod_bk, ↓Bod_rt, ↓Bod_xc, ↓Ret_rt, ↓Ret_nx, ↓Ret_xc, ↓W_cst, ↓W_nam, ↓W_bin, ↓W_neg, ↓W_cmp, ↓W_land, ↓W_lor, ↓W_lnot, ↓W_ite, ↓W_nil, ↓W_cons, ↓W_tup, ↓W_lst, ↓W_dic, ↓W_idx, ↓W_ono, ↓W_oso, ↓W_slc, ↓W_cal, ↓W_blt, ↓W_mth, ↓W_val, ↓W_rng, ↓W_rng2, ↓W_zip, ↓W_enu, ↓W_glb, ↓W_lc, ↓W_lcc, ↓W_chn, ↓T_cmp, ↓T_chn, ↓T_land, ↓T_lor, ↓T_lnot, ↓T_ite, ↓T_cst, ↓T_nam, ↓T_idx, ↓T_cal, ↓T_blt, ↓T_bin, tru_bl, tru_int, B_nil, S_exp, S_set, S_sti, S_ifs, S_whl, S_for, S_ret, S_rtn, S_brk, S_cnt, S_unp, bop_add, bop_sub, bop_mul, bop_fdiv, bop_mod, bop_pow, bop_shl, bop_shr, bop_and, bop_or, bop_xor, bop_tup, bop_str, bop_smul, bop_rep, bop_cat, cop_eq_int, cop_ne_int, cop_lt_int, cop_le_int, cop_gt_int, cop_ge_int, cop_isB, cop_notB, mk_int', mk_bl', mk_non', mk_str', mk_tup', mk_ff, mk_tt, mk_ttD, bl_len_scr, bl_len_lst, bl_len_tup, bl_len_str, bl_abs, bl_max, bl_min, bl_int, bl_intb, bl_str, bl_tuple_lst, bl_tuple_tup, bl_list_lst, bl_list_tup, bl_all, bl_any, bl_sum, bl_isi, isi_int, isi_bl, isi_str, isi_tup, isi_lst, isi_non, isi_dic, omap_some, isTy, List.any_cons, List.any_nil, Bool.or_false, Bool.or_true, Bool.true_or, Bool.false_or, leave_int, leave_bl, leave_non, leave_str, walkV_lst, walkV_tup, wipeE, if_true, decide_true, decide_false, Int.cast_ofNat_Int, Int.natCast_zero, Int.natCast_one, Bool.false_eq_true, if_false, Bool.not_true, Bool.not_false, Nat.zero_le, true_and, and_true, ne_eq, not_false_eq_true, start, List.map_cons, List.map_nil, List.length_cons, List.length_nil, List.replicate, List.cons_append, List.nil_append, List.set_cons_zero, List.set_cons_succ, List.getElem?_cons_zero, List.getElem?_cons_succ, Nat.reduceSub, Nat.reduceAdd, Int.reduceEq, Int.reduceLE, Int.reduceLT, Int.reducePow, Int.reduceToNat, Nat.reduceLT, Nat.reduceLeDiff, Int.reduceNeg, Nat.reducePow, bindT_one, s_ii, s_ai, s_oi, s_aa, s_oa, slT, slL, ix_t0, ix_t1, ix_t2, ix_t3, ix_l0, ix_l1, ix_l2, melt_int, melt_bl, melt_str, melt_non, melt_tup, melt_lst, melt_dI, melt_scr, tru_str0, isN_cop, notN_cop, isNon, q_is_is, r_is_is, q_is_and, r_is_and, q_is_or, r_is_or, q_is_end, r_is_end, q_is_yes, r_is_yes, q_is_no, r_is_no, q_is_any, r_is_any, q_is_rising, r_is_rising, q_and_is, r_and_is, q_and_and, r_and_and, q_and_or, r_and_or, q_and_end, r_and_end, q_and_yes, r_and_yes, q_and_no, r_and_no, q_and_any, r_and_any, q_and_rising, r_and_rising, q_or_is, r_or_is, q_or_and, r_or_and, q_or_or, r_or_or, q_or_end, r_or_end, q_or_yes, r_or_yes, q_or_no, r_or_no, q_or_any, r_or_any, q_or_rising, r_or_rising, q_end_is, r_end_is, q_end_and, r_end_and, q_end_or, r_end_or, q_end_end, r_end_end, q_end_yes, r_end_yes, q_end_no, r_end_no, q_end_any, r_end_any, q_end_rising, r_end_rising, q_yes_is, r_yes_is, q_yes_and, r_yes_and, q_yes_or, r_yes_or, q_yes_end, r_yes_end, q_yes_yes, r_yes_yes, q_yes_no, r_yes_no, q_yes_any, r_yes_any, q_yes_rising, r_yes_rising, q_no_is, r_no_is, q_no_and, r_no_and, q_no_or, r_no_or, q_no_end, r_no_end, q_no_yes, r_no_yes, q_no_no, r_no_no, q_no_any, r_no_any, q_no_rising, r_no_rising, q_any_is, r_any_is, q_any_and, r_any_and, q_any_or, r_any_or, q_any_end, r_any_end, q_any_yes, r_any_yes, q_any_no, r_any_no, q_any_any, r_any_any, q_any_rising, r_any_rising, q_rising_is, r_rising_is, q_rising_and, r_rising_and, q_rising_or, r_rising_or, q_rising_end, r_rising_end, q_rising_yes, r_rising_yes, q_rising_no, r_rising_no, q_rising_any, r_rising_any, q_rising_rising, r_rising_rising, ↓B_cons]) | (with_reducible refine And.intro ?_ ?_; focus bv_omega)))
theorem WP.bod {r : R Fl} {I J : Env → Hea → Prop} {Q : Fl → Hea → Prop} {E : Xc → Hea → Prop} (w : WP r (Bod I Q) E) (k : ∀ ρ h, I ρ h → J ρ h) : WP r (Bod J Q) E := by
  refine w.mono fun fl h' q => ?_
  cases fl with
  | nx ρ => exact k _ _ q
  | ct ρ => exact k _ _ q
  | bk ρ => exact q
  | rt d => exact q
  | xc x ρ => exact q
theorem sum_dI {h : Hea} {xs : List Int} : bltH .sum h [dI xs] = some (.int xs.sum) := by
  show ((some (xs.map D.int)).bind intsL).map _ = _
  show (intsL (xs.map D.int)).map _ = _
  rw [intsL_map]; rfl
/-- a list of words, in a cell or not -/
def Hd (h : Hea) (p : Nat) (e : D) (L : List Nat) : Prop := e = .lst (wd p L) ∨ ∃ r, e = .ref r ∧ get h r = some (.lst (wd p L))
section
variable {h : Hea} {p : Nat} {e : D} {L : List Nat} {c : Cell}
theorem Hd.up (q : Hd h p e L) : Hd (c :: h) p e L := by
  rcases q with rfl | ⟨r, rfl, g⟩
  · exact .inl rfl
  · exact .inr ⟨r, rfl, by rw [get_und (get_lt g)]; exact g⟩
theorem wd_deps {L : List Nat} : dep (.lst (wd p L)) ≤ 2 := dep_lstA fun d hd => by obtain ⟨x, _, rfl⟩ := List.mem_map.mp hd; rw [dep_dI]; omega
theorem wdl_nb {L : List Nat} : nb (.lst (wd p L)) = true := by unfold nb; exact wd_nbs
theorem Hd.rsv (q : Hd h p e L) : MP.rsv h e = some (.lst (wd p L)) := by
  rcases q with rfl | ⟨r, rfl, g⟩
  · exact rsv_nb wdl_nb
  · have := wd_dep (p := p) (L := L)
    exact rsv_ref g wd_nbs (by omega)
theorem Hd.seq (q : Hd h p e L) : lstV h e = some (wd p L) := by
  rcases q with rfl | ⟨r, rfl, g⟩
  · rfl
  · show (match MP.get h r with | some (.lst ds) => some ds | _ => none) = _
    rw [g]
theorem Hd.nil (q : Hd h p e L) : cop .eq h e (.lst []) = some (.bl L.isEmpty) := by
  have n2 : nb (.lst []) = true := by unfold nb nbs; rfl
  have d := wd_deps (p := p) (L := L)
  rw [cop_eq_of q.rsv (rsv_nb n2) wdl_nb n2 (.inl (by omega))]
  congr 2
  cases L with
  | nil => exact eqv_self n2
  | cons n L =>
    rw [Bool.eq_iff_iff]
    constructor
    · intro z
      have := (eqv_nb wdl_nb n2).mp z
      simp [wd] at this
    · intro z; simp at z
theorem Hd.notin {n : Nat} (q : Hd h p e L) (hn : n < 2 ^ p) (hL : ∀ m ∈ L, m < 2 ^ p) : cop .notin h (dI (bits p n)) e = some (.bl (!decide (n ∈ L))) := by
  rw [cop_notin]
  have : inH h (dI (bits p n)) e = some (decide (n ∈ L)) := by
    unfold inH
    rw [rsv_nb nb_dI, q.rsv]
    have l1 : lay (D.lst (wd p L)) = true := lay_nb wdl_nb
    simp only [lay_nb (nb_dI (xs := bits p n)), l1, dep_dI, Bool.true_and, show decide (1 ≤ 64) = true from rfl, if_true]
    congr 1
    rw [Bool.eq_iff_iff, List.any_eq_true, decide_eq_true_iff]
    constructor
    · rintro ⟨d, hd, e⟩
      obtain ⟨m, hm, rfl⟩ := List.mem_map.mp hd
      have := (eqv_nb nb_dI nb_dI).mp e
      rw [bitsN_inj hn (hL m hm) (dI_inj this).symm]
      exact hm
    · intro hm
      exact ⟨_, List.mem_map.mpr ⟨n, hm, rfl⟩, (eqv_nb nb_dI nb_dI).mpr rfl⟩
  rw [this]; rfl
theorem wd_take {k : Nat} : (wd p L).take k = wd p (L.take k) := by unfold wd; rw [List.map_take]
theorem cut1 : cut (wd p L) none (some 1) = wd p (L.take 1) := by
  rw [← wd_take]
  unfold cut sIx
  simp only [List.drop_zero, Nat.sub_zero]
  rw [if_neg (by omega), show Int.toNat 1 = 1 from rfl, wd_len]
  rcases Nat.lt_or_ge L.length 1 with hl | hl
  · rw [List.take_of_length_le (by rw [wd_len]; omega), List.take_of_length_le (by rw [wd_len]; omega)]
  · rw [Nat.min_eq_left hl]
theorem Hd.sl1 (q : Hd h p e L) : slH h e none (some 1) = some (.lst (wd p (L.take 1))) := by
  rcases q with rfl | ⟨r, rfl, g⟩
  · show some (D.lst (cut (wd p L) none (some 1))) = _
    rw [cut1]
  · show (lstV h (.ref r)).map (fun ds => D.lst (cut ds none (some 1))) = _
    rw [show lstV h (.ref r) = some (wd p L) by
      show (match MP.get h r with | some (.lst ds) => some ds | _ => none) = _
      rw [g]]
    show some (D.lst (cut (wd p L) none (some 1))) = _
    rw [cut1]
theorem Hd.tuple (q : Hd h p e L) : bltH .tuple h [e] = some (.tup (wd p L)) := by
  rcases q with rfl | ⟨r, rfl, g⟩
  · exact bl_tuple_lst
  · exact bl_tuple_ref g
/-- a comprehension over such a list, with a condition -/
theorem Hd.filter {v : Nat} {ρ : Env} {el : Env → Hea → R D} {cn : Env → Hea → R Bool} {Q : List D → Hea → Prop} {E : Xc → Hea → Prop} (q : Hd h p e L) (b : Nat → Bool) (hl : L.length ≤ SL)
    (hc : ∀ n ∈ L, WP (cn (ρ.set v (some (dI (bits p n)))) h) (fun b' h' => b' = b n ∧ h' = h) NX)
    (hs : ∀ n ∈ L, WP (el (ρ.set v (some (dI (bits p n)))) h) (fun d h' => d = dI (bits p n) ∧ h' = h) NX) (qq : Q (wd p (L.filter b)) h) :
    ∃ w, walkV h e = some w ∧ WP (lcL el cn (.one v) ρ w.fin w.its [] h) Q E := by
  rcases q with rfl | ⟨r, rfl, g⟩
  · refine ⟨_, rfl, ?_⟩
    exact W_lcfil (xs := L) (fun n => dI (bits p n)) b (fun n => dI (bits p n)) hl hc (fun n hn _ => hs n hn) (fun _ _ => below_dI) qq
  · refine ⟨⟨(List.range (wd p L).length).map (.at r ·), some (r, (wd p L).length)⟩, by show (match MP.get h r with | some (.lst ds) => some (Walk.mk ((List.range ds.length).map (.at r ·)) (some (r, ds.length))) | _ => none) = _; rw [g], ?_⟩
    refine lcL_ind (fun n acc h' => acc = wd p ((L.take n).filter b) ∧ h' = h) ⟨rfl, rfl⟩ ?_ ?_
    · rintro n hn acc h' ⟨rfl, rfl⟩
      have hn' : n < L.length := by rw [List.length_map, List.length_range, wd_len] at hn; exact hn
      have hm := List.getElem_mem hn'
      refine ⟨dI (bits p L[n]), _, ?_, rfl, (hc _ hm).nx ?_⟩
      · rw [List.getElem_map, List.getElem_range]
        show (match MP.get h' r with | some (.lst ds) => ds[n]? | _ => none) = _
        rw [g]
        show (wd p L)[n]? = _
        unfold wd
        rw [List.getElem?_map, List.getElem?_eq_getElem hn']; rfl
      rintro b' h2 ⟨rfl, rfl⟩
      have ee : wd p ((L.take (n + 1)).filter b) = wd p ((L.take n).filter b) ++ if b L[n] = true then [dI (bits p L[n])] else [] := by
        rw [List.take_add_one, List.getElem?_eq_getElem hn', Option.toList_some, List.filter_append]
        unfold wd
        rw [List.map_append]
        congr 1
        by_cases hc : b L[n] = true <;> simp [hc]
      split
      · rename_i hc'
        refine (hs _ hm).nx ?_
        rintro d h3 ⟨rfl, rfl⟩
        refine ⟨⟨?_, below_dI⟩, ?_, rfl⟩
        · rw [wd_len]
          have := List.length_filter_le b (L.take n)
          rw [List.length_take] at this
          omega
        · rw [ee, if_pos hc']
      · rename_i hc'
        exact ⟨by rw [ee, if_neg hc', List.append_nil], rfl⟩
    · rintro acc h' ⟨rfl, rfl⟩
      rw [List.length_map, List.length_range, wd_len, List.take_length]
      refine ⟨?_, qq⟩
      show (match MP.get h' r with | some (.lst es) => es.length == L.length | _ => false) = true
      rw [g]
      simp [wd_len]
theorem Hd.filterO {v : Nat} {ρ : Env} {el : Env → Hea → R D} {cn : Env → Hea → R Bool} {Q : List D → Hea → Prop} {E : Xc → Hea → Prop} (q : Hd h p e L) (b : Nat → Bool) (hl : L.length ≤ SL)
    (hc : ∀ n ∈ L, WP (cn (ρ.set v (some (dI (bits p n)))) h) (fun b' h' => b' = b n ∧ h' = h) NX)
    (hs : ∀ n ∈ L, WP (el (ρ.set v (some (dI (bits p n)))) h) (fun d h' => d = dI (bits p n) ∧ h' = h) NX) (qq : Q (wd p (L.filter b)) h) :
    Opt (walkV h e) fun w => WP (lcL el cn (.one v) ρ w.fin w.its [] h) Q E := by
  obtain ⟨w, ew, hw⟩ := q.filter b hl hc hs qq
  rw [ew]
  exact hw
end
/-- one sort filled where it is bare -/
def fillC (p : Nat) (Y : List Nat) : List Nat := (List.range (2 ^ p)).filter fun n => !decide (n ∈ Y)
def fillX (p : Nat) (Y : List Nat) : List Nat := (fillC p Y ++ Y.take 1).take 1
def fillY (p : Nat) (Y : List Nat) : List Nat := Y.filter fun n => !decide (n ∈ fillX p Y)
theorem fillC_nil {p : Nat} {Y : List Nat} (h : fillC p Y = []) {n : Nat} (hn : n < 2 ^ p) : n ∈ Y := by
  have := List.filter_eq_nil_iff.mp h n (List.mem_range.mpr hn)
  simpa using this
theorem fillX_ok {p : Nat} {Y : List Nat} (hs : Y.Sublist (List.range (2 ^ p))) : fillX p Y ≠ [] ∧ (fillX p Y).Sublist (List.range (2 ^ p)) := by
  unfold fillX
  cases hC : fillC p Y with
  | nil =>
    have h0 := fillC_nil hC (n := 0) (Nat.two_pow_pos p)
    refine ⟨?_, ?_⟩
    · cases Y with
      | nil => cases h0
      | cons y Y => simp
    · rw [List.nil_append]
      exact ((List.take_sublist _ _).trans (List.take_sublist _ _)).trans hs
  | cons c C =>
    refine ⟨by simp, ?_⟩
    have : (fillC p Y).Sublist (List.range (2 ^ p)) := List.filter_sublist
    rw [hC] at this
    simp only [List.cons_append, List.take_succ_cons, List.take_zero]
    exact ((List.nil_sublist C).cons₂ c).trans this
theorem fillY_ok {p : Nat} (h1 : 1 ≤ p) {Y : List Nat} (hs : Y.Sublist (List.range (2 ^ p))) : (fillY p Y).Sublist (List.range (2 ^ p)) ∧ (Y ≠ [] → fillY p Y ≠ []) := by
  refine ⟨List.filter_sublist.trans hs, fun hY hn => ?_⟩
  have hz : 2 ^ 1 ≤ 2 ^ p := Nat.pow_le_pow_right (by omega) h1
  have none : ∀ n ∈ Y, n ∈ fillX p Y := fun n hn' => by
    have := List.filter_eq_nil_iff.mp hn n hn'
    simpa using this
  unfold fillX at none
  cases hC : fillC p Y with
  | nil =>
    have h0 := none 0 (fillC_nil hC (by omega))
    have h1 := none 1 (fillC_nil hC (by omega))
    rw [hC] at h0 h1
    cases Y with
    | nil => exact hY rfl
    | cons y Y =>
      simp at h0 h1
      omega
  | cons c C =>
    cases Y with
    | nil => exact hY rfl
    | cons y Y =>
      have hy := none y List.mem_cons_self
      rw [hC] at hy
      simp at hy
      have hc : c ∈ fillC p (y :: Y) := by rw [hC]; exact List.mem_cons_self
      unfold fillC at hc
      have := (List.mem_filter.mp hc).2
      rw [← hy] at this
      simp at this
def prj (j : Nat) (x y : D) : List D := if j = 0 then [x, y] else [y, x]
def sortsF (d a : Nat) : Fn := ⟨2, 12, false,
   [.set 2 (.cal false a (.cons (.nam 1) .nil)),
    .set 3 (.cal false d (.cons (.nam 0) (.cons (.cst (.int 5)) .nil))),
    .set 4 (.bin false .add (.cst (.int 1)) (.cal false d (.cons (.nam 0) (.cons (.nam 1) .nil)))),
    .set 5 (.cal false d (.cons (.nam 0) (.cons (.nam 1) .nil))),
    .set 6 (.idx (.lst false (.cons (.cst (.int 1)) (.cons (.cst (.int 1)) (.cons (.cst (.int 3)) (.cons (.cst (.int 6)) .nil))))) (.cal false d (.cons (.nam 0) (.cons (.cst (.int 4)) .nil)))),
    .set 7 (.lst true (.cons (.lst true .nil) (.cons (.lst true .nil) .nil))),
    .for_ (.one 8) (.val (.nam 2))
     [.set 10 (.cal false d (.cons (.nam 0) (.cons (.cst (.int 2)) .nil))),
      .set 9 (.idx (.lst false (.cons (.nam 10) (.cons (.blt false .int (.cons (.cmp .lt (.blt false .sum (.cons (.nam 8) .nil)) (.nam 4)) .nil)) (.cons (.bin false .mod (.blt false .sum (.cons (.nam 8) .nil)) (.cst (.int 2))) (.cons (.bin false .sub (.cst (.int 1)) (.idx (.nam 8) (.nam 5))) (.cons (.blt false .int (.cons (.cmp .lt (.bin false .add (.blt false .sum (.cons (.nam 8) .nil)) (.nam 10)) (.nam 4)) .nil)) .nil)))))) (.nam 3)),
      .ifs (.cmp .eq (.cal false d (.cons (.nam 0) (.cons (.nam 6) .nil))) (.cst (.int 0)))
       [.exp (.mth false .append (.idx (.nam 7) (.nam 9)) (.cons (.nam 8) .nil))]
       []],
    .for_ (.one 9) (.rng (.cst (.int 2)))
     [.ifs (.cmp .eq (.idx (.nam 7) (.nam 9)) (.lst false .nil))
       [.set 11 (.idx (.nam 7) (.bin false .sub (.cst (.int 1)) (.nam 9))),
        .sti (.nam 7) (.nam 9) (.slc false (.bin false .add (.lc false (.nam 8) (.one 8) (.val (.nam 2)) (.some (.cmp .notin (.nam 8) (.nam 11))) [8]) (.slc false (.nam 11) .none (.some (.cst (.int 1))))) .none (.some (.cst (.int 1)))),
        .sti (.nam 7) (.bin false .sub (.cst (.int 1)) (.nam 9)) (.lc false (.nam 8) (.one 8) (.val (.nam 11)) (.some (.cmp .notin (.nam 8) (.idx (.nam 7) (.nam 9)))) [8])]
       []],
    .ret (.tup (.cons (.blt false .tuple (.cons (.idx (.nam 7) (.cst (.int 0))) .nil)) (.cons (.blt false .tuple (.cons (.idx (.nam 7) (.cst (.int 1))) .nil)) .nil)))]⟩
def c2 (n p : Nat) (A B : List Nat) (h : Hea) : Hea := .lst [.ref n, .ref (n + 1)] :: .lst (wd p B) :: .lst (wd p A) :: h
section
variable {n p : Nat} {A B : List Nat} {h : Hea}
theorem c2_len : (c2 n p A B h).length = h.length + 3 := rfl
theorem get_c2a (e : h.length = n) : get (c2 n p A B h) n = some (.lst (wd p A)) := by
  subst e
  unfold c2
  rw [get_und (by simp only [List.length_cons]; omega), get_und (by simp only [List.length_cons]; omega)]; exact get_top
theorem get_c2b (e : h.length = n) : get (c2 n p A B h) (n + 1) = some (.lst (wd p B)) := by
  subst e
  unfold c2
  rw [get_und (by simp only [List.length_cons]; omega)]; exact get_self
theorem get_c2o (e : h.length = n) : get (c2 n p A B h) (n + 1 + 1) = some (.lst [.ref n, .ref (n + 1)]) := by
  subst e; exact get_self
theorem put_c2a {L : List Nat} (e : h.length = n) : put (c2 n p A B h) n (.lst (wd p L)) = c2 n p L B h := by
  subst e
  unfold c2
  rw [put_und (by simp only [List.length_cons]; omega), put_und (by simp only [List.length_cons]; omega), put_top]
theorem put_c2b {L : List Nat} (e : h.length = n) : put (c2 n p A B h) (n + 1) (.lst (wd p L)) = c2 n p A L h := by
  subst e
  unfold c2
  rw [put_und (by simp only [List.length_cons]; omega), show h.length + 1 = (Cell.lst (wd p A) :: h).length from rfl, put_top]
end
theorem take1_sub {p : Nat} {L : List Nat} {m : Nat} (h : L.Sublist (List.range m)) : (L.take 1).Sublist (List.range m) := (List.take_sublist 1 L).trans h
section
variable {Fs : List Fn} {d a g : Nat} (ed : Fs[d]? = some drawLF) (ea : Fs[a]? = some allAF) (e : Fs[g]? = some (sortsF d a))
theorem idx4 {h : Hea} {i : Int} (h0 : 0 ≤ i) (h1 : i < 4) : ∃ v : Int, ixH h (.lst [.int 1, .int 1, .int 3, .int 6]) (.int i) = some (.int v) ∧ 1 ≤ v ∧ v ≤ 6 := by
  have : i = 0 ∨ i = 1 ∨ i = 2 ∨ i = 3 := by omega
  rcases this with rfl | rfl | rfl | rfl
  · exact ⟨1, rfl, by omega, by omega⟩
  · exact ⟨1, rfl, by omega, by omega⟩
  · exact ⟨3, rfl, by omega, by omega⟩
  · exact ⟨6, rfl, by omega, by omega⟩
theorem idx5 {h : Hea} {x0 x1 x2 x3 x4 i : Int} (h0 : 0 ≤ i) (h1 : i < 5) (a0 : 0 ≤ x0 ∧ x0 < 2) (a1 : 0 ≤ x1 ∧ x1 < 2) (a2 : 0 ≤ x2 ∧ x2 < 2) (a3 : 0 ≤ x3 ∧ x3 < 2) (a4 : 0 ≤ x4 ∧ x4 < 2) : ∃ v : Nat, ixH h (.lst [.int x0, .int x1, .int x2, .int x3, .int x4]) (.int i) = some (.int v) ∧ v < 2 := by
  have fin : ∀ x : Int, 0 ≤ x ∧ x < 2 → ∃ v : Nat, some (D.int x) = some (.int v) ∧ v < 2 := fun x hx => ⟨x.toNat, by rw [Int.toNat_of_nonneg hx.1], by omega⟩
  have : i = 0 ∨ i = 1 ∨ i = 2 ∨ i = 3 ∨ i = 4 := by omega
  rcases this with rfl | rfl | rfl | rfl | rfl
  · exact fin x0 a0
  · exact fin x1 a1
  · exact fin x2 a2
  · exact fin x3 a3
  · exact fin x4 a4
def Wn (p : Nat) (L : List Nat) : Prop := L ≠ [] ∧ L.Sublist (List.range (2 ^ p))
def so1 (r p : Nat) (h : Hea) (i : Nat) (h' : Hea) : Prop := ∃ (A B : List Nat) (hh : Hea), h' = c2 h.length p A B hh ∧ A.Sublist (List.range i) ∧ B.Sublist (List.range i) ∧ (∃ c, hh = put h r c) ∧ Pn GL hh r
include ed ea e in
theorem sorts_at {p r N : Nat} (h1 : 1 ≤ p) (h5 : p ≤ 5) (hN : 2 ≤ N) {h : Hea} (pen : Pn GL h r) :
    WP (run Fs N g [.ref r, .int p] h) (fun d' h' => ∃ Y M : List Nat, d' = .tup [.tup (wd p Y), .tup (wd p M)] ∧ Wn p Y ∧ Wn p M ∧ (∃ c, h' = put h r c) ∧ Pn GL h' r) NX := by
  obtain ⟨k, rfl⟩ : ∃ k, N = k + 1 := ⟨N - 1, by omega⟩
  have P : Drw GL (run Fs k) d := Drw.mkL ed (by omega)
  rw [run_at e]
  refine WP_exF rfl ?_
  simp only [sortsF]
  infer_instance
  rw [allA_at ea (by omega) (by omega), melt_lst]
  infer_instance
  refine P.call pen (by omega) (by omega) fun w2 h2 w20 w21 e2 p2 => ?_
  infer_instance
  refine P.call p2 (by omega) (by omega) fun w3 h3 w30 w31 e3 p3 => ?_
  infer_instance
  refine P.call p3 (by omega) (by omega) fun w4 h4 w40 w41 e4 p4 => ?_
  infer_instance
  refine P.call p4 (by omega) (by omega) fun w5 h5' w50 w51 e5 p5 => ?_
  obtain ⟨sh, es, sh1, sh6⟩ := idx4 (h := h5') w50 w51
  have e6 := puts2 (puts2 (puts2 e2 e3) e4) e5
  have l6 := puts2_len e6
  infer_instance
  rw [es]
  infer_instance
  refine frL_val (fun i ρ h' => (∃ z1 z2 z3 z4, ρ = [some (.ref r), some (.int p), some (.lst (wordsD p)), some (.int w2), some (.int (1 + w3)), some (.int w4), some (.int sh), some (.ref (h5'.length + 1 + 1)), z1, z2, z3, z4]) ∧ so1 r p h5' i h') ⟨(by (repeat apply Exists.intro); rfl), [], [], h5', rfl, by simp, by simp, p5.self, p5⟩ ?_ ?_
  · rintro i hi ρ h' ⟨⟨_, _, _, _, rfl⟩, A, B, hh, rfl, hA, hB, ee, pp⟩
    have hi' : i < 2 ^ p := by rw [wordsD_len] at hi; exact hi
    have lh := puts2_len ee
    have hz : 2 ^ p ≤ 2 ^ 5 := Nat.pow_le_pow_right (by omega) h5
    have lA : A.length ≤ i := by have := hA.length_le; rwa [List.length_range] at this
    have lB : B.length ≤ i := by have := hB.length_le; rwa [List.length_range] at this
    rw [show (wordsD p)[i] = dI (bits p i) by simp [wordsD]]
    infer_instance
    refine P.callP (.lst [.ref h5'.length, .ref (h5'.length + 1)] :: .lst (wd p B) :: .lst (wd p A) :: []) pp (by omega) (by omega) fun y h6 y0 y1 e6 p6 => ?_
    infer_instance
    rw [sum_dI]
    infer_instance
    rw [sum_dI]
    infer_instance
    have bb := bits_Bits (p := p) (n := i) w4 w40 w41
    rw [ix_dI w40 (by rw [bits_len]; omega)]
    infer_instance
    rw [sum_dI]
    infer_instance
    have f2 := fun x : Int => And.intro (Int.fmod_nonneg_of_pos x (show (0 : Int) < 2 by omega)) (Int.fmod_lt_of_pos x (show (0 : Int) < 2 by omega))
    have if2 : ∀ b : Bool, (0 : Int) ≤ (if b = true then 1 else 0) ∧ (if b = true then (1 : Int) else 0) < 2 := fun b => by cases b <;> simp
    obtain ⟨v, ev, hv⟩ := idx5 (h := .lst [.ref h5'.length, .ref (h5'.length + 1)] :: .lst (wd p B) :: .lst (wd p A) :: h6) (i := w2) w20 w21 ⟨y0, y1⟩ (if2 (decide ((bits p i).sum < 1 + w3))) (f2 (bits p i).sum) (show 0 ≤ 1 - (bits p i)[w4.toNat]?.getD 0 ∧ 1 - (bits p i)[w4.toNat]?.getD 0 < 2 by omega) (if2 (decide ((bits p i).sum + y < 1 + w3)))
    rw [ev]
    infer_instance
    refine P.callP (.lst [.ref h5'.length, .ref (h5'.length + 1)] :: .lst (wd p B) :: .lst (wd p A) :: []) p6 (by omega) (by omega) fun y2 h7 y20 y21 e7 p7 => ?_
    have e8 := puts2 (puts2 ee e6) e7
    have l8 := puts2_len e8
    have eh : ([.lst [.ref h5'.length, .ref (h5'.length + 1)], .lst (wd p B), .lst (wd p A)] ++ h7 : Hea) = c2 h5'.length p A B h7 := rfl
    rw [eh]
    infer_instance
    refine Ite.cut (fun ρ h' => (∃ z1 z2 z3 z4, ρ = [some (.ref r), some (.int p), some (.lst (wordsD p)), some (.int w2), some (.int (1 + w3)), some (.int w4), some (.int sh), some (.ref (h5'.length + 1 + 1)), z1, z2, z3, z4]) ∧ so1 r p h5' (i + 1) h') (fun hc => ?_) (fun hc => ?_) ?_
    · infer_instance
      have hvv : v = 0 ∨ v = 1 := by omega
      have no : ∀ {L : List Nat}, L.Sublist (List.range i) → L.Sublist (List.range (i + 1)) := fun hs => by rw [List.range_succ]; exact hs.trans (List.sublist_append_left _ _)
      have yes : ∀ {L : List Nat}, L.Sublist (List.range i) → (L ++ [i]).Sublist (List.range (i + 1)) := fun hs => by rw [List.range_succ]; exact hs.append (List.Sublist.refl _)
      have wa : ∀ L : List Nat, wd p L ++ [dI (bits p i)] = wd p (L ++ [i]) := fun L => by unfold wd; rw [List.map_append]; rfl
      rcases hvv with rfl | rfl
      · rw [show ixH (c2 h5'.length p A B h7) (.ref (h5'.length + 1 + 1)) (.int ((0 : Nat) : Int)) = some (.ref h5'.length) from ix_ref (i := 0) (k := 0) (get_c2o l8) rfl]
        infer_instance
        refine ⟨rcv_of (get_c2a l8) (fun z => nomatch z), ?_⟩
        infer_instance
        rw [app_ok (get_c2a l8) (by rw [wd_len]; unfold SL; omega) below_dI, wa, put_c2a l8]
        infer_instance
        exact ⟨(by (repeat apply Exists.intro); rfl), _, _, h7, rfl, yes hA, no hB, e8, p7⟩
      · rw [show ixH (c2 h5'.length p A B h7) (.ref (h5'.length + 1 + 1)) (.int ((1 : Nat) : Int)) = some (.ref (h5'.length + 1)) from ix_ref (i := 1) (k := 1) (get_c2o l8) rfl]
        infer_instance
        refine ⟨rcv_of (get_c2b l8) (fun z => nomatch z), ?_⟩
        infer_instance
        rw [app_ok (get_c2b l8) (by rw [wd_len]; unfold SL; omega) below_dI, wa, put_c2b l8]
        infer_instance
        exact ⟨(by (repeat apply Exists.intro); rfl), _, _, h7, rfl, no hA, yes hB, e8, p7⟩
    · infer_instance
      have no : ∀ {L : List Nat}, L.Sublist (List.range i) → L.Sublist (List.range (i + 1)) := fun hs => by rw [List.range_succ]; exact hs.trans (List.sublist_append_left _ _)
      exact ⟨(by (repeat apply Exists.intro); rfl), _, _, h7, rfl, no hA, no hB, e8, p7⟩
    · rintro ρ h' ⟨⟨_, _, _, _, rfl⟩, q⟩
      infer_instance
      exact ⟨(by (repeat apply Exists.intro); rfl), q⟩
  · rintro ρ h' ⟨⟨_, _, _, _, rfl⟩, A, B, hh, rfl, hA, hB, ee, pp⟩
    rw [wordsD_len] at hA hB
    infer_instance
    have lh := puts2_len ee
    have hz : 2 ^ p ≤ 2 ^ 5 := Nat.pow_le_pow_right (by omega) h5
    have eT : h5'.length + 1 + 1 = (Cell.lst (wd p B) :: .lst (wd p A) :: hh).length := by simp only [List.length_cons]; omega
    have HA : Hd (Cell.lst (wd p B) :: .lst (wd p A) :: hh) p (.ref h5'.length) A := .inr ⟨_, rfl, by rw [get_und (by simp only [List.length_cons]; omega), ← lh]; exact get_top⟩
    have HB : Hd (Cell.lst (wd p B) :: .lst (wd p A) :: hh) p (.ref (h5'.length + 1)) B := .inr ⟨_, rfl, by rw [← lh]; exact get_self⟩
    have bA : below (Cell.lst (wd p B) :: .lst (wd p A) :: hh).length (.ref h5'.length) = true := by unfold below; simp; omega
    have bB : below (Cell.lst (wd p B) :: .lst (wd p A) :: hh).length (.ref (h5'.length + 1)) = true := by unfold below; simp; omega
    unfold c2
    rw [eT]
    have tr : trunc h.length (Cell.lst (wd p B) :: .lst (wd p A) :: hh) = hh := by
      rw [trunc_cons (by simp only [List.length_cons]; omega), trunc_cons (by omega), trunc_eq (by omega)]
    have tl : h.length ≤ (Cell.lst (wd p B) :: .lst (wd p A) :: hh).length := by simp only [List.length_cons]; omega
    generalize (Cell.lst (wd p B) :: .lst (wd p A) :: hh) = t at HA HB bA bB tr tl
    have step : ∀ (j : Nat), j < 2 → ∀ (x y : D) (X Y : List Nat), Hd t p x X → Hd t p y Y → X.Sublist (List.range (2 ^ p)) → Y.Sublist (List.range (2 ^ p)) → ∀ (u1 u2 u3 : Option D) Q E,
        WP (exB (run Fs k) [.ifs (.cmp .eq (.idx (.nam 7) (.nam 9)) (.lst false .nil))
       [.set 11 (.idx (.nam 7) (.bin false .sub (.cst (.int 1)) (.nam 9))),
        .sti (.nam 7) (.nam 9) (.slc false (.bin false .add (.lc false (.nam 8) (.one 8) (.val (.nam 2)) (.some (.cmp .notin (.nam 8) (.nam 11))) [8]) (.slc false (.nam 11) .none (.some (.cst (.int 1))))) .none (.some (.cst (.int 1)))),
        .sti (.nam 7) (.bin false .sub (.cst (.int 1)) (.nam 9)) (.lc false (.nam 8) (.one 8) (.val (.nam 11)) (.some (.cmp .notin (.nam 8) (.idx (.nam 7) (.nam 9)))) [8])]
       []] [some (.ref r), some (.int p), some (.lst (wordsD p)), some (.int w2), some (.int (1 + w3)), some (.int w4), some (.int sh), some (.ref t.length), u1, some (.int j), u2, u3] (.lst (prj j x y) :: t))
        (Bod (fun ρ h' => (∃ z1 z2 z3 z4, ρ = [some (.ref r), some (.int p), some (.lst (wordsD p)), some (.int w2), some (.int (1 + w3)), some (.int w4), some (.int sh), some (.ref t.length), z1, z2, z3, z4]) ∧ ∃ x' y' X' Y', h' = .lst (prj j x' y') :: t ∧ Hd t p x' X' ∧ Hd t p y' Y' ∧ X'.Sublist (List.range (2 ^ p)) ∧ Y'.Sublist (List.range (2 ^ p)) ∧ X' ≠ [] ∧ (Y ≠ [] → Y' ≠ [])) Q) E := by
      intro j hj x y X Y hX hY sX sY u1 u2 u3 Q E
      have lY := sY.length_le
      rw [List.length_range] at lY
      have jj : ∀ (c : List Cell) (x y : D), ixH (.lst (prj j x y) :: t) (.ref t.length) (.int j) = some x := fun c x y => by
        have : j = 0 ∨ j = 1 := by omega
        rcases this with rfl | rfl
        · exact ix_ref (i := 0) (k := 0) get_top rfl
        · exact ix_ref (i := 1) (k := 1) get_top rfl
      have j1 : ∀ (x y : D), ixH (.lst (prj j x y) :: t) (.ref t.length) (.int (1 - (j : Int))) = some y := fun x y => by
        have : j = 0 ∨ j = 1 := by omega
        rcases this with rfl | rfl
        · exact ix_ref (i := 1) (k := 1) get_top rfl
        · exact ix_ref (i := 0) (k := 0) get_top rfl
      have s0 : ∀ (x y z : D), below t.length z = true → stiH (.lst (prj j x y) :: t) (.ref t.length) (.int j) z = some (.lst (prj j z y) :: t) := fun x y z b => by
        have : j = 0 ∨ j = 1 := by omega
        rcases this with rfl | rfl
        · rw [sti_ok (i := ((0 : Nat) : Int)) (k := 0) get_top rfl b, put_top]; rfl
        · rw [sti_ok (i := ((1 : Nat) : Int)) (k := 1) get_top rfl b, put_top]; rfl
      have s1 : ∀ (x y z : D), below t.length z = true → stiH (.lst (prj j x y) :: t) (.ref t.length) (.int (1 - (j : Int))) z = some (.lst (prj j x z) :: t) := fun x y z b => by
        have : j = 0 ∨ j = 1 := by omega
        rcases this with rfl | rfl
        · rw [show (1 : Int) - ((0 : Nat) : Int) = 1 from rfl, sti_ok (i := 1) (k := 1) get_top rfl b, put_top]; rfl
        · rw [show (1 : Int) - ((1 : Nat) : Int) = 0 from rfl, sti_ok (i := 0) (k := 0) get_top rfl b, put_top]; rfl
      infer_instance
      rw [jj []]
      infer_instance
      rw [hX.up.nil]
      infer_instance
      cases X with
      | cons n X =>
        rw [show (n :: X).isEmpty = false from rfl]
        infer_instance
        exact ⟨(by (repeat apply Exists.intro); rfl), x, y, n :: X, Y, rfl, hX, hY, sX, sY, by simp, fun q => q⟩
      | nil =>
        rw [show ([] : List Nat).isEmpty = true from rfl]
        infer_instance
        rw [j1]
        infer_instance
        refine W_lcfil (xs := List.range (2 ^ p)) (fun n => dI (bits p n)) (fun n => !decide (n ∈ Y)) (fun n => dI (bits p n)) (by rw [List.length_range]; unfold SL; omega) (fun n hn => ?_) (fun n hn _ => ?_) (fun _ _ => below_dI) ?_
        · infer_instance
          rw [hY.up.notin (List.mem_range.mp hn) (subl_lt sY)]
          infer_instance
        · infer_instance
        · infer_instance
          rw [hY.up.sl1]
          infer_instance
          rw [show ((List.range (2 ^ p)).filter fun n => !decide (n ∈ Y)).map (fun n => dI (bits p n)) = wd p (fillC p Y) from rfl, show wd p (fillC p Y) ++ wd p (Y.take 1) = wd p (fillC p Y ++ Y.take 1) by unfold wd; rw [List.map_append]]
          have lC : (fillC p Y).length ≤ 2 ^ p := by
            have := List.length_filter_le (fun n => !decide (n ∈ Y)) (List.range (2 ^ p))
            rwa [List.length_range] at this
          have lT := List.length_take_le 1 Y
          refine ⟨by rw [wd_len, wd_len]; unfold SL; omega, ?_⟩
          rw [cut1, show (fillC p Y ++ Y.take 1).take 1 = fillX p Y from rfl, s0 _ _ _ (below_nb wdl_nb)]
          infer_instance
          refine Hd.filterO hY.up (fun n => !decide (n ∈ fillX p Y)) (by unfold SL; omega) (fun n hn => ?_) (fun n hn => ?_) ?_
          · infer_instance
            rw [jj []]
            infer_instance
            rw [Hd.notin (.inl rfl) (subl_lt sY n hn) (subl_lt (fillX_ok sY).2)]
            infer_instance
          · infer_instance
          · infer_instance
            rw [s1 _ _ _ (below_nb wdl_nb)]
            infer_instance
            exact ⟨(by (repeat apply Exists.intro); rfl), _, _, fillX p Y, fillY p Y, rfl, .inl rfl, .inl rfl, (fillX_ok sY).2, (fillY_ok h1 sY).1, (fillX_ok sY).1, (fillY_ok h1 sY).2⟩
    refine frL_rng (fun i ρ h' => (∃ z1 z2 z3 z4, ρ = [some (.ref r), some (.int p), some (.lst (wordsD p)), some (.int w2), some (.int (1 + w3)), some (.int w4), some (.int sh), some (.ref t.length), z1, z2, z3, z4]) ∧ ∃ x y X Y, h' = .lst [x, y] :: t ∧ Hd t p x X ∧ Hd t p y Y ∧ X.Sublist (List.range (2 ^ p)) ∧ Y.Sublist (List.range (2 ^ p)) ∧ (1 ≤ i → X ≠ []) ∧ (2 ≤ i → Y ≠ [])) ⟨(by (repeat apply Exists.intro); rfl), _, _, A, B, rfl, HA, HB, hA, hB, by omega, by omega⟩ ?_ ?_
    · rintro i hi ρ h' ⟨⟨_, _, _, _, rfl⟩, x, y, X, Y, rfl, hX, hY, sX, sY, nX, nY⟩
      rw [Int.zero_add]
      have : i = 0 ∨ i = 1 := by omega
      rcases this with rfl | rfl
      · refine (step 0 (by omega) x y X Y hX hY sX sY _ _ _ _ _).bod ?_
        rintro ρ h' ⟨e1, x', y', X', Y', rfl, q1, q2, q3, q4, q5, q6⟩
        exact ⟨e1, x', y', X', Y', rfl, q1, q2, q3, q4, fun _ => q5, fun z => by omega⟩
      · refine (step 1 (by omega) y x Y X hY hX sY sX _ _ _ _ _).bod ?_
        rintro ρ h' ⟨e1, x', y', X', Y', rfl, q1, q2, q3, q4, q5, q6⟩
        exact ⟨e1, y', x', Y', X', rfl, q2, q1, q4, q3, fun _ => q6 (nX (by omega)), fun _ => q5⟩
    · rintro ρ h' ⟨⟨_, _, _, _, rfl⟩, x, y, X, Y, rfl, hX, hY, sX, sY, nX, nY⟩
      have i0 : ixH (.lst [x, y] :: t) (.ref t.length) (.int 0) = some x := ix_ref (i := 0) (k := 0) get_top rfl
      have i1 : ixH (.lst [x, y] :: t) (.ref t.length) (.int 1) = some y := ix_ref (i := 1) (k := 1) get_top rfl
      infer_instance
      rw [i0]
      infer_instance
      rw [hX.up.tuple]
      infer_instance
      rw [i1]
      infer_instance
      rw [hY.up.tuple]
      infer_instance
      rw [leave_tup (by simp [belows, below, wd_bel]), trunc_cons tl, tr]
      infer_instance
      exact ⟨X, Y, rfl, ⟨nX (by omega), sX⟩, ⟨nY (by omega), sY⟩, puts2 e6 ee, pp⟩
end
end MP

set_option maxHeartbeats 4000000
/-! Words sorted. -/
namespace MP
open PySem
theorem alike_ints : ∀ {xs ys : List Int}, xs.length = ys.length → PySem.W.alikeAll (toPys (xs.map D.int)) (toPys (ys.map D.int)) = true
  | [], [], _ => by simp [toPys, PySem.W.alikeAll]
  | x :: xs, y :: ys, h => by
    have := alike_ints (xs := xs) (ys := ys) (by simpa using h)
    simp only [List.map_cons, toPys, toPy, PySem.W.alikeAll, PySem.W.alike, this, Bool.and_self]
  | [], _ :: _, h => by simp at h
  | _ :: _, [], h => by simp at h
theorem of_wd {p : Nat} : ∀ {ds : List D}, (∀ d ∈ ds, ∃ n, n < 2 ^ p ∧ d = dI (bits p n)) → ∃ L : List Nat, ds = wd p L ∧ ∀ n ∈ L, n < 2 ^ p
  | [], _ => ⟨[], rfl, fun n hn => (nomatch hn)⟩
  | d :: ds, h => by
    obtain ⟨n, hn, rfl⟩ := h d List.mem_cons_self
    obtain ⟨L, rfl, hL⟩ := of_wd fun x hx => h x (List.mem_cons_of_mem _ hx)
    exact ⟨n :: L, rfl, fun m hm => by
      rcases List.mem_cons.mp hm with rfl | q
      · exact hn
      · exact hL m q⟩
/-- what sorted tells of some words -/
theorem sorted_wd {h : Hea} {p : Nat} {L : List Nat} {e : D} (h1 : 1 ≤ p) (hL : ∀ n ∈ L, n < 2 ^ p) (q : Hd h p e L) : ∃ L' : List Nat, bltH .sorted h [e] = some (.lst (wd p L')) ∧ L'.length = L.length ∧ (∀ n ∈ L', n < 2 ^ p) ∧ (wd p L').Perm (wd p L) := by
  have ok : sortOk (wd p L) = true := by
    unfold sortOk
    rw [Bool.and_eq_true, Bool.and_eq_true]
    refine ⟨⟨?_, ?_⟩, ?_⟩
    · rw [List.all_eq_true]
      intro d hd
      obtain ⟨n, _, rfl⟩ := List.mem_map.mp hd
      rw [show closed (dI (bits p n)) = true from below_dI, lay_nb nb_dI, dep_dI]
      rfl
    · rw [List.all_eq_true]
      intro d hd
      rw [List.all_eq_true]
      intro d' hd'
      obtain ⟨n, _, rfl⟩ := List.mem_map.mp hd
      obtain ⟨m, _, rfl⟩ := List.mem_map.mp hd'
      unfold dI toPy
      simp only [PySem.W.alike]
      exact alike_ints (by rw [bits_len, bits_len])
    · rw [Bool.or_eq_true]
      left
      rw [List.all_eq_true]
      intro d hd
      obtain ⟨n, _, rfl⟩ := List.mem_map.mp hd
      have : bits p n ≠ [] := fun z => by have := congrArg List.length z; rw [bits_len] at this; simp at this; omega
      unfold dI
      cases hb : bits p n with
      | nil => exact absurd hb this
      | cons b bs => rfl
  have pm := List.mergeSort_perm (wd p L) srtLe
  obtain ⟨L', eL, hb⟩ := of_wd (p := p) (ds := (wd p L).mergeSort srtLe) fun d hd => by
    obtain ⟨n, hn, rfl⟩ := List.mem_map.mp (pm.mem_iff.mp hd)
    exact ⟨n, hL n hn, rfl⟩
  refine ⟨L', ?_, ?_, hb, by rw [← eL]; exact pm⟩
  · show sortH h e = _
    unfold sortH
    rw [q.seq]
    show (if sortOk (wd p L) then some (D.lst ((wd p L).mergeSort srtLe)) else none) = _
    rw [if_pos ok, eL]
  · have := pm.length_eq
    rw [eL, wd_len, wd_len] at this
    exact this
theorem inn_intsT {h : Hea} {b : Int} {xs : List Int} : cop .inn h (.int b) (.tup (xs.map .int)) = some (.bl (decide (b ∈ xs))) := by
  have n1 : nb (.tup (xs.map .int)) = true := nb_dI
  have : inH h (.int b) (.tup (xs.map .int)) = some (decide (b ∈ xs)) := by
    unfold inH
    rw [rsv_nb nb_int, rsv_nb n1]
    have l1 : lay (D.tup (xs.map .int)) = true := lay_nb n1
    simp only [lay_nb nb_int, l1, dep_int, Bool.true_and, show decide (0 ≤ 64) = true from rfl, if_true]
    congr 1
    rw [Bool.eq_iff_iff, List.any_eq_true, decide_eq_true_iff]
    constructor
    · rintro ⟨d, hd, e⟩
      obtain ⟨m, hm, rfl⟩ := List.mem_map.mp hd
      have := (eqv_nb nb_int nb_int).mp e
      injection this with this
      rw [← this]; exact hm
    · intro hm
      exact ⟨_, List.mem_map.mpr ⟨b, hm, rfl⟩, (eqv_nb nb_int nb_int).mpr rfl⟩
  rw [cop_inn, this]; rfl
theorem notin_intsT {h : Hea} {b : Int} {xs : List Int} : cop .notin h (.int b) (.tup (xs.map .int)) = some (.bl (!decide (b ∈ xs))) := by
  have := inn_intsT (h := h) (b := b) (xs := xs)
  rw [cop_inn] at this
  rw [cop_notin]
  cases q : inH h (.int b) (.tup (xs.map .int)) with
  | none => rw [q] at this; cases this
  | some k => rw [q] at this; cases this; rfl
theorem eq_unit {h : Hea} {p : Nat} {L : List Nat} : cop .eq h (.tup (wd p L)) (.tup []) = some (.bl L.isEmpty) := by
  have n2 : nb (.tup []) = true := by unfold nb nbs; rfl
  have d := wd_dep2 (p := p) (L := L)
  cases L with
  | nil => exact eq_refl (rsv_nb n2) (rsv_nb n2) n2 (Nat.le_trans d (by omega))
  | cons n L => rw [eq_nb wd_nb n2 (by omega) (fun z => by simp [wd] at z)]; rfl
theorem notin_at {h : Hea} {p n : Nat} {L : List Nat} (hn : n < 2 ^ p) (hL : ∀ m ∈ L, m < 2 ^ p) : cop .notin h (dI (bits p n)) (.tup (wd p L)) = some (.bl (!decide (n ∈ L))) := by rw [cop_notin, inn_wd hn hL]; rfl
end MP

set_option maxHeartbeats 4000000
/-! Talks drawn, spoken, bent, cut. -/
namespace MP
open PySem
local macro_rules | `(tactic| trivial) => `(tactic| try simp -implicitDefEqProofs only [frL_nil, ↓frL_one, ↓frL_many, TupV_lst, ↓T_mth, walkN_dI, walkN_tup, walkN_lst, walkZ_tt, walkZ_tl, walkZ_lt, walkZ_ll, walkV_dI, len_dI, leave_dI, mk_dI, tuple_dI, isi_dI, TupV_dI, WP_ok, WP_nox, Nam_some, Opt_some, Opt_if, Ite_tt, Ite_ff, IntV_int, TupV_tup, setAll, BlV_bl, ↓Nxt_nx, ↓Nxt_rt, ↓Nxt_bk, ↓Nxt_ct, ↓Nxt_xc, ↓Bod_nx, ↓Bod_ct, ↓Bod_bk, ↓Bod_rt, ↓Bod_xc, ↓Ret_rt, ↓Ret_nx, ↓Ret_xc, ↓W_cst, ↓W_nam, ↓W_bin, ↓W_neg, ↓W_cmp, ↓W_land, ↓W_lor, ↓W_lnot, ↓W_ite, ↓W_nil, ↓W_cons, ↓W_tup, ↓W_lst, ↓W_dic, ↓W_idx, ↓W_ono, ↓W_oso, ↓W_slc, ↓W_cal, ↓W_blt, ↓W_mth, ↓W_val, ↓W_rng, ↓W_rng2, ↓W_zip, ↓W_enu, ↓W_glb, ↓W_lc, ↓W_lcc, ↓W_chn, ↓T_cmp, ↓T_chn, ↓T_land, ↓T_lor, ↓T_lnot, ↓T_ite, ↓T_cst, ↓T_nam, ↓T_idx, ↓T_cal, ↓T_blt, ↓T_bin, tru_bl, tru_int, B_nil, S_exp, S_set, S_sti, S_ifs, S_whl, S_for, S_ret, S_rtn, S_brk, S_cnt, S_unp, bop_add, bop_sub, bop_mul, bop_fdiv, bop_mod, bop_pow, bop_shl, bop_shr, bop_and, bop_or, bop_xor, bop_tup, bop_str, bop_smul, bop_rep, bop_cat, cop_eq_int, cop_ne_int, cop_lt_int, cop_le_int, cop_gt_int, cop_ge_int, cop_isB, cop_notB, mk_int', mk_bl', mk_non', mk_str', mk_tup', mk_ff, mk_tt, mk_ttD, bl_len_scr, bl_len_lst, bl_len_tup, bl_len_str, bl_abs, bl_max, bl_min, bl_int, bl_intb, bl_str, bl_tuple_lst, bl_tuple_tup, bl_list_lst, bl_list_tup, bl_all, bl_any, bl_sum, bl_isi, isi_int, isi_bl, isi_str, isi_tup, isi_lst, isi_non, isi_dic, omap_some, isTy, List.any_cons, List.any_nil, Bool.or_false, Bool.or_true, Bool.true_or, Bool.false_or, leave_int, leave_bl, leave_non, leave_str, walkV_lst, walkV_tup, wipeE, if_true, decide_true, decide_false, Int.cast_ofNat_Int, Int.natCast_zero, Int.natCast_one, Bool.false_eq_true, if_false, Bool.not_true, Bool.not_false, Nat.zero_le, true_and, and_true, ne_eq, not_false_eq_true, start, List.map_cons, List.map_nil, List.length_cons, List.length_nil, List.replicate, List.cons_append, List.nil_append, List.set_cons_zero, List.set_cons_succ, List.getElem?_cons_zero, List.getElem?_cons_succ, Nat.reduceSub, Nat.reduceAdd, Int.reduceEq, Int.reduceLE, Int.reduceLT, Int.reducePow, Int.reduceToNat, Nat.reduceLT, Nat.reduceLeDiff, Int.reduceNeg, Nat.reducePow, bindT_one, s_ii, s_ai, s_oi, s_aa, s_oa, slT, slL, ix_t0, ix_t1, ix_t2, ix_t3, ix_l0, ix_l1, ix_l2, melt_int, melt_bl, melt_str, melt_non, melt_tup, melt_lst, melt_dI, melt_scr, tru_str0, isN_cop, notN_cop, isNon, q_is_is, r_is_is, q_is_and, r_is_and, q_is_or, r_is_or, q_is_end, r_is_end, q_is_yes, r_is_yes, q_is_no, r_is_no, q_is_any, r_is_any, q_is_rising, r_is_rising, q_and_is, r_and_is, q_and_and, r_and_and, q_and_or, r_and_or, q_and_end, r_and_end, q_and_yes, r_and_yes, q_and_no, r_and_no, q_and_any, r_and_any, q_and_rising, r_and_rising, q_or_is, r_or_is, q_or_and, r_or_and, q_or_or, r_or_or, q_or_end, r_or_end, q_or_yes, r_or_yes, q_or_no, r_or_no, q_or_any, r_or_any, q_or_rising, r_or_rising, q_end_is, r_end_is, q_end_and, r_end_and, q_end_or, r_end_or, q_end_end, r_end_end, q_end_yes, r_end_yes, q_end_no, r_end_no, q_end_any, r_end_any, q_end_rising, r_end_rising, q_yes_is, r_yes_is, q_yes_and, r_yes_and, q_yes_or, r_yes_or, q_yes_end, r_yes_end, q_yes_yes, r_yes_yes, q_yes_no, r_yes_no, q_yes_any, r_yes_any, q_yes_rising, r_yes_rising, q_no_is, r_no_is, q_no_and, r_no_and, q_no_or, r_no_or, q_no_end, r_no_end, q_no_yes, r_no_yes, q_no_no, r_no_no, q_no_any, r_no_any, q_no_rising, r_no_rising, q_any_is, r_any_is, q_any_and, r_any_and, q_any_or, r_any_or, q_any_end, r_any_end, q_any_yes, r_any_yes, q_any_no, r_any_no, q_any_any, r_any_any, q_any_rising, r_any_rising, q_rising_is, r_rising_is, q_rising_and, r_rising_and, q_rising_or, r_rising_or, q_rising_end, r_rising_end, q_rising_yes, r_rising_yes, q_rising_no, r_rising_no, q_rising_any, r_rising_any, q_rising_rising, r_rising_rising])
local macro_rules | `(tactic| bv_omega) => `(tactic| first | omega | (unfold SL; omega) | exact ⟨R62_of (by omega) (by omega), R62_of (by omega) (by omega)⟩ | exact smallL (by omega) (by omega) | exact smallR (by omega) (by omega) | exact rcv_join | exact rcv_end | (simp only [List.length_cons, List.length_nil, List.length_append, List.length_map]; unfold SL; omega))
local macro_rules | `(tactic| infer_instance) => `(tactic| repeat (first | (simp -implicitDefEqProofs only [frL_nil, ↓frL_one, ↓frL_many, TupV_lst, ↓T_mth, walkN_dI, walkN_tup, walkN_lst, walkZ_tt, walkZ_tl, walkZ_lt, walkZ_ll, walkV_dI, len_dI, leave_dI, mk_dI, tuple_dI, isi_dI, TupV_dI, WP_ok, WP_nox, Nam_some, Opt_some, Opt_if, Ite_tt, Ite_ff, IntV_int, TupV_tup, setAll, BlV_bl, ↓Nxt_nx, ↓Nxt_rt, ↓Nxt_bk, ↓Nxt_ct, ↓Nxt_xc, ↓Bod_nx, ↓Bod_ct, ↓Bod_bk, ↓Bod_rt, ↓Bod_xc, ↓Ret_rt, ↓Ret_nx, ↓Ret_xc, ↓W_cst, ↓W_nam, ↓W_bin, ↓W_neg, ↓W_cmp, ↓W_land, ↓W_lor, ↓W_lnot, ↓W_ite, ↓W_nil, ↓W_cons, ↓W_tup, ↓W_lst, ↓W_dic, ↓W_idx, ↓W_ono, ↓W_oso, ↓W_slc, ↓W_cal, ↓W_blt, ↓W_mth, ↓W_val, ↓W_rng, ↓W_rng2, ↓W_zip, ↓W_enu, ↓W_glb, ↓W_lc, ↓W_lcc, ↓W_chn, ↓T_cmp, ↓T_chn, ↓T_land, ↓T_lor, ↓T_lnot, ↓T_ite, ↓T_cst, ↓T_nam, ↓T_idx, ↓T_cal, ↓T_blt, ↓T_bin, tru_bl, tru_int, B_nil, S_exp, S_set, S_sti, S_ifs, S_whl, S_for, S_ret, S_rtn, S_brk, S_cnt, S_unp, bop_add, bop_sub, bop_mul, bop_fdiv, bop_mod, bop_pow, bop_shl, bop_shr, bop_and, bop_or, bop_xor, bop_tup, bop_str, bop_smul, bop_rep, bop_cat, cop_eq_int, cop_ne_int, cop_lt_int, cop_le_int, cop_gt_int, cop_ge_int, cop_isB, cop_notB, mk_int', mk_bl', mk_non', mk_str', mk_tup', mk_ff, mk_tt, mk_ttD, bl_len_scr, bl_len_lst, bl_len_tup, bl_len_str, bl_abs, bl_max, bl_min, bl_int, bl_intb, bl_str, bl_tuple_lst, bl_tuple_tup, bl_list_lst, bl_list_tup, bl_all, bl_any, bl_sum, bl_isi, isi_int, isi_bl, isi_str, isi_tup, isi_lst, isi_non, isi_dic, omap_some, isTy, List.any_cons, List.any_nil, Bool.or_false, Bool.or_true, Bool.true_or, Bool.false_or, leave_int, leave_bl, leave_non, leave_str, walkV_lst, walkV_tup, wipeE, if_true, decide_true, decide_false, Int.cast_ofNat_Int, Int.natCast_zero, Int.natCast_one, Bool.false_eq_true, if_false, Bool.not_true, Bool.not_false, Nat.zero_le, true_and, and_true, ne_eq, not_false_eq_true, start, List.map_cons, List.map_nil, List.length_cons, List.length_nil, List.replicate, List.cons_append, List.nil_append, List.set_cons_zero, List.set_cons_succ, List.getElem?_cons_zero, List.getElem?_cons_succ, Nat.reduceSub, Nat.reduceAdd, Int.reduceEq, Int.reduceLE, Int.reduceLT, Int.reducePow, Int.reduceToNat, Nat.reduceLT, Nat.reduceLeDiff, Int.reduceNeg, Nat.reducePow, bindT_one, s_ii, s_ai, s_oi, s_aa, s_oa, slT, slL, ix_t0, ix_t1, ix_t2, ix_t3, ix_l0, ix_l1, ix_l2, melt_int, melt_bl, melt_str, melt_non, melt_tup, melt_lst, melt_dI, melt_scr, tru_str0, isN_cop, notN_cop, isNon, q_is_is, r_is_is, q_is_and, r_is_and, q_is_or, r_is_or, q_is_end, r_is_end, q_is_yes, r_is_yes, q_is_no, r_is_no, q_is_any, r_is_any, q_is_rising, r_is_rising, q_and_is, r_and_is, q_and_and, r_and_and, q_and_or, r_and_or, q_and_end, r_and_end, q_and_yes, r_and_yes, q_and_no, r_and_no, q_and_any, r_and_any, q_and_rising, r_and_rising, q_or_is, r_or_is, q_or_and, r_or_and, q_or_or, r_or_or, q_or_end, r_or_end, q_or_yes, r_or_yes, q_or_no, r_or_no, q_or_any, r_or_any, q_or_rising, r_or_rising, q_end_is, r_end_is, q_end_and, r_end_and, q_end_or, r_end_or, q_end_end, r_end_end, q_end_yes, r_end_yes, q_end_no, r_end_no, q_end_any, r_end_any, q_end_rising, r_end_rising, q_yes_is, r_yes_is, q_yes_and, r_yes_and, q_yes_or, r_yes_or, q_yes_end, r_yes_end, q_yes_yes, r_yes_yes, q_yes_no, r_yes_no, q_yes_any, r_yes_any, q_yes_rising, r_yes_rising, q_no_is, r_no_is, q_no_and, r_no_and, q_no_or, r_no_or, q_no_end, r_no_end, q_no_yes, r_no_yes, q_no_no, r_no_no, q_no_any, r_no_any, q_no_rising, r_no_rising, q_any_is, r_any_is, q_any_and, r_any_and, q_any_or, r_any_or, q_any_end, r_any_end, q_any_yes, r_any_yes, q_any_no, r_any_no, q_any_any, r_any_any, q_any_rising, r_any_rising, q_rising_is, r_rising_is, q_rising_and, r_rising_and, q_rising_or, r_rising_or, q_rising_end, r_rising_end, q_rising_yes, r_rising_yes, q_rising_no, r_rising_no, q_rising_any, r_rising_any, q_rising_rising, r_rising_rising, ↓B_cons]) | (with_reducible refine And.intro ?_ ?_; focus bv_omega)))
/-! ### good talks -/
theorem two5 {p : Nat} (h5 : p ≤ 5) : 2 ^ p ≤ 32 := (Nat.pow_le_pow_right (by omega) h5 : 2 ^ p ≤ 2 ^ 5)
structure Ws (p : Nat) (L : List Nat) : Prop where
  nd : L.Nodup
  lt : ∀ n ∈ L, n < 2 ^ p
theorem nd_len : ∀ {m : Nat} {L : List Nat}, L.Nodup → (∀ n ∈ L, n < m) → L.length ≤ m
  | 0, L, _, h => by
    cases L with
    | nil => simp
    | cons n L => exact absurd (h n List.mem_cons_self) (by omega)
  | m + 1, L, d, h => by
    by_cases hm : m ∈ L
    · have l := (List.perm_cons_erase hm).length_eq
      have := nd_len (m := m) (d.erase m) fun n hn => by
        have q := d.mem_erase_iff.mp hn
        have := h n q.2
        have := q.1
        omega
      rw [List.length_cons] at l
      omega
    · have := nd_len (m := m) d fun n hn => by
        have := h n hn
        have : n ≠ m := fun z => hm (z ▸ hn)
        omega
      omega
section
variable {p : Nat} {L : List Nat}
theorem Ws.len (w : Ws p L) : L.length ≤ 2 ^ p := nd_len w.nd w.lt
theorem Ws.of (s : L.Sublist (List.range (2 ^ p))) : Ws p L := ⟨subl_nd s, subl_lt s⟩
theorem Ws.fil (w : Ws p L) (b : Nat → Bool) : Ws p (L.filter b) := ⟨List.filter_sublist.nodup w.nd, fun n hn => w.lt n (List.mem_filter.mp hn).1⟩
end
def Tk.gd (p : Nat) : Tk → Nat → Prop
  | en i, _ => 0 ≤ i ∧ i < p
  | hd _ _ _ _, 0 => False
  | hd _ L a b, k + 1 => Ws p L ∧ a.gd p k ∧ b.gd p k
theorem Tk.ok.gd {p : Nat} : ∀ {t : Tk} {k : Nat}, t.ok p k → t.gd p k
  | .en i, k, h => h
  | .hd y L a b, 0, h => h
  | .hd y L a b, k + 1, h => by
    unfold Tk.ok at h
    unfold Tk.gd
    exact ⟨.of h.1, h.2.1.gd, h.2.2.gd⟩
theorem Tk.gd.mono {p : Nat} : ∀ {t : Tk} {k j : Nat}, t.gd p k → k ≤ j → t.gd p j
  | .en i, k, j, h, _ => by unfold Tk.gd at h ⊢; exact h
  | .hd y L a b, 0, j, h, _ => by unfold Tk.gd at h; exact h.elim
  | .hd y L a b, k + 1, 0, h, l => by omega
  | .hd y L a b, k + 1, j + 1, h, l => by
    unfold Tk.gd at h ⊢
    exact ⟨h.1, h.2.1.mono (by omega), h.2.2.mono (by omega)⟩
theorem Tk.gd.dep {p : Nat} : ∀ {t : Tk} {k : Nat}, t.gd p k → dep (t.d p) ≤ k + 2
  | .en i, k, h => by
    have : MP.dep (D.tup [.str [101, 110, 100], .int i]) ≤ 0 + 1 := dep_tupA fun d hd => by
      simp only [List.mem_cons, List.not_mem_nil, or_false] at hd
      rcases hd with rfl | rfl
      · rw [dep_str]; omega
      · rw [dep_int]; omega
    show MP.dep (D.tup [.str [101, 110, 100], .int i]) ≤ _
    omega
  | .hd y L a b, 0, h => by unfold Tk.gd at h; exact h.elim
  | .hd y L a b, k + 1, h => by
    unfold Tk.gd at h
    have h1 := h.2.1.dep
    have h2 := h.2.2.dep
    have := wd_dep2 (p := p) (L := L)
    exact dep_tupA fun d hd => by
      simp only [List.mem_cons, List.not_mem_nil, or_false] at hd
      rcases hd with rfl | rfl | rfl | rfl
      · rw [dep_str]; omega
      · omega
      · omega
      · omega
theorem Tk.gd.lv {p : Nat} : ∀ {t : Tk} {k : Nat}, t.gd p k → t.lv ≤ 2 ^ k
  | .en i, k, h => by unfold Tk.lv; exact Nat.two_pow_pos k
  | .hd y L a b, 0, h => by unfold Tk.gd at h; exact h.elim
  | .hd y L a b, k + 1, h => by
    unfold Tk.gd at h
    have h1 := h.2.1.lv
    have h2 := h.2.2.lv
    unfold Tk.lv
    rw [Nat.pow_succ]; omega
theorem Tk.gd.dp {p : Nat} : ∀ {t : Tk} {k : Nat}, t.gd p k → t.dp ≤ k
  | .en i, k, h => by unfold Tk.dp; omega
  | .hd y L a b, 0, h => by unfold Tk.gd at h; exact h.elim
  | .hd y L a b, k + 1, h => by
    unfold Tk.gd at h
    have h1 := h.2.1.dp
    have h2 := h.2.2.dp
    unfold Tk.dp; omega
/-! ### the walks -/
/-- _law_pen(_law_script, _law_k); calls ; slots 0 _law_script, 1 _law_k, 2 _law_cell -/
def penTF : Fn := ⟨2, 3, false,
   [.set 2 (.bin false .add (.bin false .mul (.cst (.int 40013)) (.nam 1)) (.cst (.int 29))),
    .ifs (.cmp .gt (.blt false .len (.cons (.nam 0) .nil)) (.cst (.int 0)))
     [.set 2 (.bin false .add (.idx (.nam 0) (.bin false .mod (.nam 1) (.blt false .len (.cons (.nam 0) .nil)))) (.bin false .mul (.bin false .fdiv (.nam 1) (.blt false .len (.cons (.nam 0) .nil))) (.cst (.int 48271))))]
     [],
    .ifs (.land (.cmp .lt (.nam 1) (.blt false .len (.cons (.nam 0) .nil))) (.cmp .ge (.blt false .abs (.cons (.nam 2) .nil)) (.bin false .pow (.cst (.int 10)) (.cst (.int 18)))))
     [.ret (.lst true (.cons (.blt false .abs (.cons (.nam 2) .nil)) (.cons (.bin false .mod (.nam 2) (.cst (.int 999999937))) (.cons (.cst (.int 0)) .nil))))]
     [],
    .ret (.lst true (.cons (.cst (.int 0)) (.cons (.bin false .add (.bin false .mod (.nam 2) (.cst (.int 999999937))) (.bin false .mul (.cst (.int 70001)) (.nam 1))) (.cons (.cst (.int 0)) .nil))))]⟩
/-- spoken(talk, yes, no); calls ; slots 0 talk, 1 yes, 2 no, 3 bits, 4 own, 5 bit -/
def spokenF : Fn := ⟨3, 6, false,
   [.set 3 (.lst true .nil),
    .whl (.cmp .ne (.idx (.nam 0) (.cst (.int 0))) (.cst (.str [101, 110, 100])))
     [.set 4 (.idx (.dic false (.cons (.cst (.str [121, 101, 115])) (.cons (.nam 1) (.cons (.cst (.str [110, 111])) (.cons (.nam 2) .nil))))) (.idx (.nam 0) (.cst (.int 0)))),
      .set 5 (.blt false .int (.cons (.cmp .inn (.nam 4) (.idx (.nam 0) (.cst (.int 1)))) .nil)),
      .exp (.mth false .append (.nam 3) (.cons (.nam 5) .nil)),
      .set 0 (.idx (.nam 0) (.bin false .add (.cst (.int 2)) (.nam 5)))],
    .ret (.tup (.cons (.nam 3) (.cons (.idx (.nam 0) (.cst (.int 1))) .nil)))]⟩
/-- _law_says(_law_pen_here, _law_places_here); calls g0 _law_all, g1 _law_draw; slots 0 _law_pen_here, 1 _law_places_here, 2 _law_some, 3 _law_share, 4 _law_word -/
def saysF (g0 : Nat) (g1 : Nat) : Fn := ⟨2, 5, false,
   [.set 2 (.cal false g0 (.cons (.nam 1) .nil)),
    .set 3 (.idx (.lst false (.cons (.tup (.cons (.cst (.int 0)) (.cons (.cst (.int 1)) .nil))) (.cons (.tup (.cons (.cst (.int 1)) (.cons (.cst (.int 1)) .nil))) (.cons (.tup (.cons (.cst (.int 1)) (.cons (.cst (.int 2)) .nil))) (.cons (.tup (.cons (.cst (.int 1)) (.cons (.cst (.int 5)) .nil))) (.cons (.tup (.cons (.cst (.int 3)) (.cons (.cst (.int 4)) .nil))) .nil)))))) (.cal false g1 (.cons (.nam 0) (.cons (.cst (.int 5)) .nil)))),
    .ret (.blt true .tuple (.cons (.lc false (.nam 4) (.one 4) (.val (.nam 2)) (.some (.cmp .lt (.cal false g1 (.cons (.nam 0) (.cons (.idx (.nam 3) (.cst (.int 1))) .nil))) (.idx (.nam 3) (.cst (.int 0))))) [4]) .nil))]⟩
/-- _law_any_talk(_law_pen_here, _law_places_here, _law_left_here); calls g0 _law_draw, g1 _law_says, g2 _law_any_talk; slots 0 _law_pen_here, 1 _law_places_here, 2 _law_left_here, 3 _law_hand, 4 _law_says_here, 5 _law_first -/
def anyF (g0 : Nat) (g1 : Nat) (g2 : Nat) : Fn := ⟨3, 6, false,
   [.ifs (.lor (.cmp .eq (.nam 2) (.cst (.int 0))) (.cmp .eq (.cal false g0 (.cons (.nam 0) (.cons (.cst (.int 6)) .nil))) (.cst (.int 0))))
     [.ret (.tup (.cons (.cst (.str [101, 110, 100])) (.cons (.cal false g0 (.cons (.nam 0) (.cons (.nam 1) .nil))) .nil)))]
     [],
    .set 3 (.idx (.lst false (.cons (.cst (.str [121, 101, 115])) (.cons (.cst (.str [110, 111])) .nil))) (.cal false g0 (.cons (.nam 0) (.cons (.cst (.int 2)) .nil)))),
    .set 4 (.cal false g1 (.cons (.nam 0) (.cons (.nam 1) .nil))),
    .set 5 (.cal false g2 (.cons (.nam 0) (.cons (.nam 1) (.cons (.bin false .sub (.nam 2) (.cst (.int 1))) .nil)))),
    .ret (.tup (.cons (.nam 3) (.cons (.nam 4) (.cons (.nam 5) (.cons (.cal false g2 (.cons (.nam 0) (.cons (.nam 1) (.cons (.bin false .sub (.nam 2) (.cst (.int 1))) .nil)))) .nil)))))]⟩
/-- _law_case(_law_pen_here, _law_places_here); calls g0 _law_all, g1 _law_draw; slots 0 _law_pen_here, 1 _law_places_here, 2 _law_some, 3 _law_one, 4 _law_other, 5 _law_shares, 6 _law_yes, 7 _law_no, 8 _law_k, 9 _law_word, 10 _law_at -/
def caseTF (g0 : Nat) (g1 : Nat) : Fn := ⟨2, 11, false,
   [.set 2 (.cal false g0 (.cons (.nam 1) .nil)),
    .set 3 (.cal false g1 (.cons (.nam 0) (.cons (.blt false .len (.cons (.nam 2) .nil)) .nil))),
    .set 4 (.bin false .mod (.bin false .add (.bin false .add (.nam 3) (.cst (.int 1))) (.cal false g1 (.cons (.nam 0) (.cons (.bin false .sub (.blt false .len (.cons (.nam 2) .nil)) (.cst (.int 1))) .nil)))) (.blt false .len (.cons (.nam 2) .nil))),
    .set 5 (.idx (.lst false (.cons (.tup (.cons (.cst (.int 1)) (.cons (.cst (.int 1)) (.cons (.cst (.int 0)) .nil)))) (.cons (.tup (.cons (.cst (.int 1)) (.cons (.cst (.int 1)) (.cons (.cst (.int 2)) .nil)))) (.cons (.tup (.cons (.cst (.int 1)) (.cons (.cst (.int 5)) (.cons (.cst (.int 0)) .nil)))) (.cons (.tup (.cons (.cst (.int 4)) (.cons (.cst (.int 1)) (.cons (.cst (.int 9)) .nil)))) .nil))))) (.cal false g1 (.cons (.nam 0) (.cons (.cst (.int 4)) .nil)))),
    .set 6 (.lst true (.cons (.idx (.nam 2) (.nam 3)) .nil)),
    .set 7 (.lst true (.cons (.idx (.nam 2) (.nam 4)) .nil)),
    .for_ (.many [8, 9]) (.enu (.nam 2))
     [.set 10 (.cal false g1 (.cons (.nam 0) (.cons (.bin false .add (.bin false .add (.idx (.nam 5) (.cst (.int 0))) (.idx (.nam 5) (.cst (.int 1)))) (.idx (.nam 5) (.cst (.int 2)))) .nil))),
      .ifs (.land (.cmp .notin (.nam 8) (.tup (.cons (.nam 3) (.cons (.nam 4) .nil)))) (.cmp .lt (.nam 10) (.idx (.nam 5) (.cst (.int 0)))))
       [.exp (.mth false .append (.nam 6) (.cons (.nam 9) .nil))]
       [.ifs (.land (.cmp .notin (.nam 8) (.tup (.cons (.nam 3) (.cons (.nam 4) .nil)))) (.cmp .lt (.nam 10) (.bin false .add (.idx (.nam 5) (.cst (.int 0))) (.idx (.nam 5) (.cst (.int 1))))))
         [.exp (.mth false .append (.nam 7) (.cons (.nam 9) .nil))]
         []]],
    .ret (.tup (.cons (.nam 1) (.cons (.blt false .tuple (.cons (.blt false .sorted (.cons (.nam 6) .nil)) .nil)) (.cons (.blt false .tuple (.cons (.blt false .sorted (.cons (.nam 7) .nil)) .nil)) .nil))))]⟩
/-- _law_places(_law_pen_here); calls g0 _law_draw; slots 0 _law_pen_here -/
def placesTF (g0 : Nat) : Fn := ⟨1, 1, false,
   [.ret (.idx (.lst true (.cons (.cst (.int 1)) (.cons (.cst (.int 2)) (.cons (.cst (.int 2)) (.cons (.cst (.int 3)) (.cons (.cst (.int 3)) (.cons (.cst (.int 3)) (.cons (.cst (.int 4)) (.cons (.cst (.int 5)) .nil))))))))) (.cal false g0 (.cons (.nam 0) (.cons (.cst (.int 8)) .nil))))]⟩
/-- own_words(talk, yes, no); calls ; slots 0 talk, 1 yes, 2 no, 3 words, 4 first, 5 second, 6 word -/
def ownsF : Fn := ⟨3, 7, false,
   [.set 3 (.idx (.dic false (.cons (.cst (.str [121, 101, 115])) (.cons (.nam 1) (.cons (.cst (.str [110, 111])) (.cons (.nam 2) .nil))))) (.idx (.nam 0) (.cst (.int 0)))),
    .set 4 (.blt false .tuple (.cons (.lc false (.nam 6) (.one 6) (.val (.nam 3)) (.some (.cmp .notin (.nam 6) (.idx (.nam 0) (.cst (.int 1))))) [6]) .nil)),
    .set 5 (.blt false .tuple (.cons (.lc false (.nam 6) (.one 6) (.val (.nam 3)) (.some (.cmp .inn (.nam 6) (.idx (.nam 0) (.cst (.int 1))))) [6]) .nil)),
    .ret (.tup (.cons (.nam 4) (.cons (.nam 5) .nil)))]⟩
/-- led_on(talk, yes, no); calls g0 own_words; slots 0 talk, 1 yes, 2 no, 3 parts, 4 part -/
def ledF (g0 : Nat) : Fn := ⟨3, 5, false,
   [.set 3 (.cal false g0 (.cons (.nam 0) (.cons (.nam 1) (.cons (.nam 2) .nil)))),
    .ifs (.cmp .eq (.idx (.nam 0) (.cst (.int 0))) (.cst (.str [121, 101, 115])))
     [.ret (.lc true (.tup (.cons (.nam 4) (.cons (.nam 2) .nil))) (.one 4) (.val (.nam 3)) .none [4])]
     [],
    .ret (.lc true (.tup (.cons (.nam 1) (.cons (.nam 4) .nil))) (.one 4) (.val (.nam 3)) .none [4])]⟩
/-- ends_from(talk, bits, yes, no); calls g0 led_on, g1 ends_from; slots 0 talk, 1 bits, 2 yes, 3 no, 4 found, 5 bit, 6 words -/
def endsF (g0 : Nat) (g1 : Nat) : Fn := ⟨4, 7, false,
   [.ifs (.cmp .eq (.idx (.nam 0) (.cst (.int 0))) (.cst (.str [101, 110, 100])))
     [.ret (.lst true (.cons (.tup (.cons (.nam 1) (.cons (.idx (.nam 0) (.cst (.int 1))) (.cons (.nam 2) (.cons (.nam 3) .nil))))) .nil))]
     [],
    .set 4 (.lst true .nil),
    .for_ (.many [5, 6]) (.enu (.cal false g0 (.cons (.nam 0) (.cons (.nam 2) (.cons (.nam 3) .nil)))))
     [.exp (.mth false .extend (.nam 4) (.cons (.cal false g1 (.cons (.idx (.nam 0) (.bin false .add (.cst (.int 2)) (.nam 5))) (.cons (.bin false .add (.nam 1) (.lst false (.cons (.nam 5) .nil))) (.cons (.idx (.nam 6) (.cst (.int 0))) (.cons (.idx (.nam 6) (.cst (.int 1))) .nil))))) .nil))],
    .ret (.nam 4)]⟩
/-- ends_of(case, talk); calls g0 ends_from; slots 0 case, 1 talk -/
def endsOfF (g0 : Nat) : Fn := ⟨2, 2, false,
   [.ret (.cal true g0 (.cons (.nam 1) (.cons (.lst false .nil) (.cons (.idx (.nam 0) (.cst (.int 1))) (.cons (.idx (.nam 0) (.cst (.int 2))) .nil)))))]⟩
/-- cut_for(talk, yes, no); calls g0 own_words, g1 cut_for, g2 led_on; slots 0 talk, 1 yes, 2 no, 3 parts, 4 cuts, 5 first, 6 second, 7 bit, 8 words -/
def cutF (g0 : Nat) (g1 : Nat) (g2 : Nat) : Fn := ⟨3, 9, false,
   [.ifs (.cmp .eq (.idx (.nam 0) (.cst (.int 0))) (.cst (.str [101, 110, 100])))
     [.ret (.nam 0)]
     [],
    .unp [5, 6] (.cal false g0 (.cons (.nam 0) (.cons (.nam 1) (.cons (.nam 2) .nil)))),
    .ifs (.cmp .eq (.nam 5) (.tup .nil))
     [.ret (.cal true g1 (.cons (.idx (.nam 0) (.cst (.int 3))) (.cons (.nam 1) (.cons (.nam 2) .nil))))]
     [],
    .ifs (.cmp .eq (.nam 6) (.tup .nil))
     [.ret (.cal true g1 (.cons (.idx (.nam 0) (.cst (.int 2))) (.cons (.nam 1) (.cons (.nam 2) .nil))))]
     [],
    .set 3 (.cal false g2 (.cons (.nam 0) (.cons (.nam 1) (.cons (.nam 2) .nil)))),
    .set 4 (.lc false (.cal false g1 (.cons (.idx (.nam 0) (.bin false .add (.cst (.int 2)) (.nam 7))) (.cons (.idx (.nam 8) (.cst (.int 0))) (.cons (.idx (.nam 8) (.cst (.int 1))) .nil)))) (.many [7, 8]) (.enu (.nam 3)) .none [7, 8]),
    .ret (.tup (.cons (.idx (.nam 0) (.cst (.int 0))) (.cons (.idx (.nam 0) (.cst (.int 1))) (.cons (.idx (.nam 4) (.cst (.int 0))) (.cons (.idx (.nam 4) (.cst (.int 1))) .nil)))))]⟩
/-- cut(case, talk); calls g0 cut_for; slots 0 case, 1 talk -/
def cutOfF (g0 : Nat) : Fn := ⟨2, 2, false,
   [.ret (.cal true g0 (.cons (.nam 1) (.cons (.idx (.nam 0) (.cst (.int 1))) (.cons (.idx (.nam 0) (.cst (.int 2))) .nil))))]⟩
/-- pairs_in(case); calls ; slots 0 case, 1 found, 2 one, 3 other -/
def pairsF : Fn := ⟨1, 4, false,
   [.set 1 (.lst true .nil),
    .for_ (.one 2) (.val (.idx (.nam 0) (.cst (.int 1))))
     [.exp (.mth false .extend (.nam 1) (.cons (.lc false (.tup (.cons (.nam 2) (.cons (.nam 3) .nil))) (.one 3) (.val (.idx (.nam 0) (.cst (.int 2)))) .none [3]) .nil))],
    .ret (.nam 1)]⟩
/-- is_apart(rule, place, yes, no); calls ; slots 0 rule, 1 place, 2 yes, 3 no -/
def apartF : Fn := ⟨4, 4, false,
   [.ifs (.cmp .eq (.nam 0) (.cst (.str [114, 105, 115, 105, 110, 103])))
     [.ret (.land (.cmp .eq (.idx (.nam 2) (.nam 1)) (.cst (.int 1))) (.cmp .eq (.idx (.nam 3) (.nam 1)) (.cst (.int 0))))]
     [],
    .ret (.cmp .ne (.idx (.nam 2) (.nam 1)) (.idx (.nam 3) (.nam 1)))]⟩
/-- fault(case, rule, talk); calls g0 pairs_in, g1 spoken, g2 is_apart; slots 0 case, 1 rule, 2 talk, 3 yes, 4 no, 5 place -/
def faultF (g0 : Nat) (g1 : Nat) (g2 : Nat) : Fn := ⟨3, 6, false,
   [.for_ (.many [3, 4]) (.val (.cal false g0 (.cons (.nam 0) .nil)))
     [.set 5 (.idx (.cal false g1 (.cons (.nam 2) (.cons (.nam 3) (.cons (.nam 4) .nil)))) (.cst (.int 1))),
      .ifs (.lnot (.cal false g2 (.cons (.nam 1) (.cons (.nam 5) (.cons (.nam 3) (.cons (.nam 4) .nil))))))
       [.ret (.tup (.cons (.nam 3) (.cons (.nam 4) (.cons (.nam 5) .nil))))]
       []],
    .ret (.cst .non)]⟩
/-- lets_by(case, rule, talk); calls g0 fault; slots 0 case, 1 rule, 2 talk -/
def letsF (g0 : Nat) : Fn := ⟨3, 3, false,
   [.ret (.cmp .isN (.cal false g0 (.cons (.nam 0) (.cons (.nam 1) (.cons (.nam 2) .nil)))) (.cst .non))]⟩
/-- _law_saying(_law_pen_here, _law_places_here, _law_left, _law_rising); calls g0 _law_draw, g1 _law_saying; slots 0 _law_pen_here, 1 _law_places_here, 2 _law_left, 3 _law_rising, 4 _law_join, 5 _law_one, 6 _law_bit_here -/
def sayingRF (g0 : Nat) (g1 : Nat) : Fn := ⟨4, 7, false,
   [.ifs (.lor (.cmp .eq (.nam 2) (.cst (.int 0))) (.cmp .eq (.cal false g0 (.cons (.nam 0) (.cons (.cst (.int 5)) .nil))) (.cst (.int 0))))
     [.set 6 (.blt false .max (.cons (.blt false .int (.cons (.nam 3) .nil)) (.cons (.cal false g0 (.cons (.nam 0) (.cons (.cst (.int 2)) .nil))) .nil))),
      .ret (.tup (.cons (.cst (.str [105, 115])) (.cons (.cal false g0 (.cons (.nam 0) (.cons (.nam 1) .nil))) (.cons (.nam 6) .nil))))]
     [],
    .set 4 (.idx (.lst false (.cons (.cst (.str [97, 110, 100])) (.cons (.cst (.str [111, 114])) .nil))) (.cal false g0 (.cons (.nam 0) (.cons (.cst (.int 2)) .nil)))),
    .set 5 (.cal false g1 (.cons (.nam 0) (.cons (.nam 1) (.cons (.bin false .sub (.nam 2) (.cst (.int 1))) (.cons (.nam 3) .nil))))),
    .ret (.tup (.cons (.nam 4) (.cons (.nam 5) (.cons (.cal false g1 (.cons (.nam 0) (.cons (.nam 1) (.cons (.bin false .sub (.nam 2) (.cst (.int 1))) (.cons (.nam 3) .nil))))) .nil))))]⟩
/-- _law_bit(_law_saying_here, _law_word); calls g0 _law_bit; slots 0 _law_saying_here, 1 _law_word, 2 _law_both -/
def bitF (g0 : Nat) : Fn := ⟨2, 3, false,
   [.ifs (.cmp .eq (.idx (.nam 0) (.cst (.int 0))) (.cst (.str [105, 115])))
     [.ret (.blt true .int (.cons (.cmp .eq (.idx (.nam 1) (.idx (.nam 0) (.cst (.int 1)))) (.idx (.nam 0) (.cst (.int 2)))) .nil))]
     [],
    .set 2 (.bin false .add (.cal false g0 (.cons (.idx (.nam 0) (.cst (.int 1))) (.cons (.nam 1) .nil))) (.cal false g0 (.cons (.idx (.nam 0) (.cst (.int 2))) (.cons (.nam 1) .nil)))),
    .ret (.blt true .int (.cons (.cmp .gt (.nam 2) (.idx (.lst false (.cons (.cst (.int 0)) (.cons (.cst (.int 1)) .nil))) (.blt false .int (.cons (.cmp .eq (.idx (.nam 0) (.cst (.int 0))) (.cst (.str [97, 110, 100]))) .nil)))) .nil))]⟩
/-- _law_parted(_law_pen_here, _law_places_here, _law_rising); calls g0 _law_saying, g1 _law_bit, g2 _law_all, g3 _law_draw; slots 0 _law_pen_here, 1 _law_places_here, 2 _law_rising, 3 _law_saying_here, 4 _law_bits, 5 _law_sorts, 6 _law_word, 7 _law_bit_here, 8 _law_some -/
def partedRF (g0 : Nat) (g1 : Nat) (g2 : Nat) (g3 : Nat) : Fn := ⟨3, 9, false,
   [.set 3 (.cal false g0 (.cons (.nam 0) (.cons (.nam 1) (.cons (.cst (.int 4)) (.cons (.nam 2) .nil))))),
    .set 4 (.lc false (.cal false g1 (.cons (.nam 3) (.cons (.nam 6) .nil))) (.one 6) (.val (.cal false g2 (.cons (.nam 1) .nil))) .none [6]),
    .ifs (.cmp .inn (.blt false .sum (.cons (.nam 4) .nil)) (.tup (.cons (.cst (.int 0)) (.cons (.blt false .len (.cons (.nam 4) .nil)) .nil))))
     [.set 3 (.tup (.cons (.cst (.str [105, 115])) (.cons (.cal false g3 (.cons (.nam 0) (.cons (.nam 1) .nil))) (.cons (.cst (.int 1)) .nil))))]
     [],
    .set 5 (.lst true (.cons (.lst true .nil) (.cons (.lst true .nil) .nil))),
    .for_ (.one 6) (.val (.cal false g2 (.cons (.nam 1) .nil)))
     [.exp (.mth false .append (.idx (.nam 5) (.cal false g1 (.cons (.nam 3) (.cons (.nam 6) .nil)))) (.cons (.nam 6) .nil))],
    .ifs (.cmp .gt (.cal false g3 (.cons (.nam 0) (.cons (.cst (.int 3)) .nil))) (.cst (.int 0)))
     [.for_ (.one 7) (.val (.tup (.cons (.cst (.int 0)) (.cons (.cst (.int 1)) .nil))))
       [.set 8 (.lc false (.nam 6) (.one 6) (.val (.idx (.nam 5) (.nam 7))) (.some (.cmp .eq (.cal false g3 (.cons (.nam 0) (.cons (.cst (.int 3)) .nil))) (.cst (.int 0)))) [6]),
        .sti (.nam 5) (.nam 7) (.lor (.nam 8) (.slc false (.idx (.nam 5) (.nam 7)) (.some (.neg (.cst (.int 1)))) .none))]]
     [],
    .ret (.tup (.cons (.tup (.cons (.nam 1) (.cons (.blt false .tuple (.cons (.idx (.nam 5) (.cst (.int 1))) .nil)) (.cons (.blt false .tuple (.cons (.idx (.nam 5) (.cst (.int 0))) .nil)) .nil)))) (.cons (.nam 3) .nil)))]⟩
/-- _law_talk_of(_law_saying_here, _law_yes, _law_no); calls g0 _law_bit, g1 _law_talk_of; slots 0 _law_saying_here, 1 _law_yes, 2 _law_no, 3 _law_hand, 4 _law_says_here, 5 _law_word -/
def talkOfF (g0 : Nat) (g1 : Nat) : Fn := ⟨3, 6, false,
   [.ifs (.cmp .eq (.idx (.nam 0) (.cst (.int 0))) (.cst (.str [105, 115])))
     [.ret (.tup (.cons (.cst (.str [101, 110, 100])) (.cons (.idx (.nam 0) (.cst (.int 1))) .nil)))]
     [],
    .set 3 (.cst (.str [121, 101, 115])),
    .set 4 (.lc false (.nam 5) (.one 5) (.val (.nam 1)) (.some (.cmp .eq (.cal false g0 (.cons (.idx (.nam 0) (.cst (.int 1))) (.cons (.nam 5) .nil))) (.cst (.int 0)))) [5]),
    .ifs (.cmp .eq (.idx (.nam 0) (.cst (.int 0))) (.cst (.str [97, 110, 100])))
     [.set 3 (.cst (.str [110, 111])),
      .set 4 (.lc false (.nam 5) (.one 5) (.val (.nam 2)) (.some (.cmp .eq (.cal false g0 (.cons (.idx (.nam 0) (.cst (.int 1))) (.cons (.nam 5) .nil))) (.cst (.int 1)))) [5])]
     [],
    .ret (.tup (.cons (.nam 3) (.cons (.blt false .tuple (.cons (.nam 4) .nil)) (.cons (.cal false g1 (.cons (.idx (.nam 0) (.cst (.int 1))) (.cons (.nam 1) (.cons (.nam 2) .nil)))) (.cons (.cal false g1 (.cons (.idx (.nam 0) (.cst (.int 2))) (.cons (.nam 1) (.cons (.nam 2) .nil)))) .nil)))))]⟩
/-- _law_bent(_law_pen_here, _law_places_here, _law_talk); calls g0 _law_draw, g1 _law_bent, g2 _law_all; slots 0 _law_pen_here, 1 _law_places_here, 2 _law_talk, 3 _law_way, 4 _law_some, 5 _law_word, 6 _law_left, 7 _law_hand, 8 _law_says_here, 9 _law_first, 10 _law_second, 11 _law_one -/
def bentF (g0 : Nat) (g1 : Nat) (g2 : Nat) : Fn := ⟨3, 12, false,
   [.ifs (.cmp .eq (.idx (.nam 2) (.cst (.int 0))) (.cst (.str [101, 110, 100])))
     [.ret (.tup (.cons (.cst (.str [101, 110, 100])) (.cons (.bin false .mod (.bin false .add (.bin false .add (.idx (.nam 2) (.cst (.int 1))) (.cst (.int 1))) (.cal false g0 (.cons (.nam 0) (.cons (.blt false .max (.cons (.cst (.int 1)) (.cons (.bin false .sub (.nam 1) (.cst (.int 1))) .nil))) .nil)))) (.nam 1)) .nil)))]
     [],
    .unp [7, 8, 9, 10] (.nam 2),
    .set 3 (.cal false g0 (.cons (.nam 0) (.cons (.cst (.int 8)) .nil))),
    .ifs (.cmp .lt (.nam 3) (.cst (.int 3)))
     [.ret (.tup (.cons (.nam 7) (.cons (.nam 8) (.cons (.cal false g1 (.cons (.nam 0) (.cons (.nam 1) (.cons (.nam 9) .nil)))) (.cons (.nam 10) .nil)))))]
     [],
    .ifs (.cmp .lt (.nam 3) (.cst (.int 6)))
     [.ret (.tup (.cons (.nam 7) (.cons (.nam 8) (.cons (.nam 9) (.cons (.cal false g1 (.cons (.nam 0) (.cons (.nam 1) (.cons (.nam 10) .nil)))) .nil)))))]
     [],
    .ifs (.cmp .eq (.nam 3) (.cst (.int 6)))
     [.ret (.idx (.lst true (.cons (.tup (.cons (.cst (.str [121, 101, 115])) (.cons (.nam 8) (.cons (.nam 10) (.cons (.nam 9) .nil))))) (.cons (.tup (.cons (.cst (.str [110, 111])) (.cons (.nam 8) (.cons (.nam 9) (.cons (.nam 10) .nil))))) .nil))) (.cal false g0 (.cons (.nam 0) (.cons (.cst (.int 2)) .nil))))]
     [],
    .set 4 (.cal false g2 (.cons (.nam 1) .nil)),
    .set 5 (.idx (.nam 4) (.cal false g0 (.cons (.nam 0) (.cons (.blt false .len (.cons (.nam 4) .nil)) .nil)))),
    .set 6 (.lc true (.nam 11) (.one 11) (.val (.nam 8)) (.some (.cmp .ne (.nam 11) (.nam 5))) [11]),
    .ifs (.cmp .eq (.blt false .len (.cons (.nam 6) .nil)) (.blt false .len (.cons (.nam 8) .nil)))
     [.exp (.mth false .append (.nam 6) (.cons (.nam 5) .nil))]
     [],
    .ret (.tup (.cons (.nam 7) (.cons (.blt false .tuple (.cons (.blt false .sorted (.cons (.nam 6) .nil)) .nil)) (.cons (.nam 9) (.cons (.nam 10) .nil)))))]⟩
/-- _law_ended(_law_talk, _law_yes, _law_no); calls ; slots 0 _law_talk, 1 _law_yes, 2 _law_no, 3 _law_bits, 4 _law_own, 5 _law_word -/
def endedF : Fn := ⟨3, 6, false,
   [.set 3 (.lst true .nil),
    .whl (.cmp .gt (.blt false .len (.cons (.nam 0) .nil)) (.cst (.int 2)))
     [.set 4 (.idx (.lst false (.cons (.nam 2) (.cons (.nam 1) .nil))) (.blt false .int (.cons (.cmp .eq (.idx (.nam 0) (.cst (.int 0))) (.cst (.str [121, 101, 115]))) .nil))),
      .exp (.mth false .append (.nam 3) (.cons (.blt false .sum (.cons (.lc false (.cst (.int 1)) (.one 5) (.val (.idx (.nam 0) (.cst (.int 1)))) (.some (.cmp .eq (.nam 5) (.nam 4))) [5]) .nil)) .nil)),
      .set 0 (.idx (.lst false (.cons (.idx (.nam 0) (.cst (.int 2))) (.cons (.idx (.nam 0) (.cst (.int 3))) .nil))) (.idx (.nam 3) (.neg (.cst (.int 1)))))],
    .ret (.tup (.cons (.nam 3) (.cons (.idx (.nam 0) (.cst (.int 1))) .nil)))]⟩
section
variable {Fs : List Fn} {g : Nat}
theorem idx5T {h : Hea} {i : Int} (h0 : 0 ≤ i) (h1 : i < 5) : ∃ s m : Int, ixH h (.lst [.tup [.int 0, .int 1], .tup [.int 1, .int 1], .tup [.int 1, .int 2], .tup [.int 1, .int 5], .tup [.int 3, .int 4]]) (.int i) = some (.tup [.int s, .int m]) ∧ 1 ≤ m ∧ m ≤ 5 := by
  have : i = 0 ∨ i = 1 ∨ i = 2 ∨ i = 3 ∨ i = 4 := by omega
  rcases this with rfl | rfl | rfl | rfl | rfl
  · exact ⟨0, 1, rfl, by omega, by omega⟩
  · exact ⟨1, 1, rfl, by omega, by omega⟩
  · exact ⟨1, 2, rfl, by omega, by omega⟩
  · exact ⟨1, 5, rfl, by omega, by omega⟩
  · exact ⟨3, 4, rfl, by omega, by omega⟩
def lcI (p a : Nat) (h : Hea) (n : Nat) (acc : List D) (h' : Hea) : Prop := ∃ L : List Nat, acc = wd p L ∧ L.Sublist (List.range n) ∧ (∃ c, h' = put h a c) ∧ Pn GT h' a
theorem lcI_no {p a n : Nat} {h h' : Hea} {L : List Nat} (s : L.Sublist (List.range n)) (e : ∃ c, h' = put h a c) (q : Pn GT h' a) : lcI p a h (n + 1) (wd p L) h' :=
  ⟨L, rfl, by rw [List.range_succ]; exact s.trans (List.sublist_append_left _ _), e, q⟩
theorem lcI_yes {p a n : Nat} {h h' : Hea} {L : List Nat} (s : L.Sublist (List.range n)) (e : ∃ c, h' = put h a c) (q : Pn GT h' a) : lcI p a h (n + 1) (wd p L ++ [dI (bits p n)]) h' :=
  ⟨L ++ [n], by unfold wd; rw [List.map_append]; rfl, by rw [List.range_succ]; exact s.append (List.Sublist.refl _), e, q⟩
theorem says_at {ga gd p a N : Nat} (e : Fs[g]? = some (saysF ga gd)) (ea : Fs[ga]? = some allEF) (ed : Fs[gd]? = some drawTF) (h1 : 1 ≤ p) (h5 : p ≤ 5) (hN : 2 ≤ N) {h : Hea} (pen : Pn GT h a) : WP (run Fs N g [.ref a, .int p] h) (fun d h' => ∃ L, d = .tup (wd p L) ∧ L.Sublist (List.range (2 ^ p)) ∧ (∃ c, h' = put h a c) ∧ Pn GT h' a) NX := by
  obtain ⟨k, rfl⟩ : ∃ k, N = (k + 1) + 1 := ⟨N - 2, by omega⟩
  have P : Drw GT (run Fs (k + 1)) gd := Drw.mkT ed (by omega)
  have hz := two5 h5
  rw [run_at e]
  refine WP_exF rfl ?_
  simp only [saysF]
  infer_instance
  rw [allE_at ea h1 (by omega) (by omega), melt_new (Nat.le_refl _)]
  infer_instance
  refine P.call pen (by omega) (by omega) fun w h2 w0 w1 e1 p1 => ?_
  infer_instance
  obtain ⟨s, m, ei, m1, m5⟩ := idx5T (h := h2) w0 w1
  rw [ei]
  infer_instance
  refine lcL_ind (lcI p a h2) ⟨[], rfl, by simp, p1.self, p1⟩ ?_ ?_
  · rintro i hi acc h' ⟨L, rfl, hs, ee, pp⟩
    have hi' : i < 2 ^ p := by rw [List.length_map, wordsD_len] at hi; exact hi
    have hl : L.length ≤ i := by have := hs.length_le; rwa [List.length_range] at this
    refine ⟨dI (bits p i), _, by simp only [List.getElem_map, wordsD, List.getElem_range]; rfl, rfl, ?_⟩
    infer_instance
    refine P.call pp (by omega) (by omega) fun y h3 y0 y1 e3 p3 => ?_
    have e4 := puts2 ee e3
    infer_instance
    split
    · infer_instance
      exact ⟨⟨by rw [wd_len]; unfold SL; omega, below_dI⟩, lcI_yes hs e4 p3⟩
    · exact lcI_no hs e4 p3
  · rintro acc h' ⟨L, rfl, hs, ee, pp⟩
    rw [List.length_map, wordsD_len] at hs
    refine ⟨rfl, ?_⟩
    infer_instance
    rw [leave_tup wd_bel, trunc_eq (puts2_len (puts2 e1 ee))]
    infer_instance
    exact ⟨L, rfl, hs, puts2 e1 ee, pp⟩
theorem end_at {p : Nat} {gd a N : Nat} (ed : Fs[gd]? = some drawTF) (h1 : 1 ≤ p) (h5 : p ≤ 5) (hN : 1 ≤ N) {h : Hea} (pen : Pn GT h a) {n : Nat} {Q : D → Hea → Prop} {E : Xc → Hea → Prop} (k : ∀ (i : Int) (h' : Hea), (Tk.en i).gd p 0 → (∃ c, h' = put h a c) → Pn GT h' a → Q (.int i) h') : WP (melt n (run Fs N gd [.ref a, .int p] h)) Q E :=
  (Drw.mkT ed hN).call pen (by omega) (by omega) fun i h' i0 i1 e p => k i h' ⟨i0, i1⟩ e p
theorem hand2 {h : Hea} {i : Int} (h0 : 0 ≤ i) (h1 : i < 2) : ∃ y : Bool, ixH h (.lst [.str [121, 101, 115], .str [110, 111]]) (.int i) = some (.str (if y = true then [121, 101, 115] else [110, 111])) := by
  obtain ⟨J, eJ, hJ⟩ := idx2 (h := h) (x := .str [121, 101, 115]) (y := .str [110, 111]) h0 h1
  rcases hJ with rfl | rfl
  · exact ⟨true, eJ⟩
  · exact ⟨false, eJ⟩
theorem any_at {gd gs p a : Nat} (e : Fs[g]? = some (anyF gd gs g)) {ga : Nat} (es : Fs[gs]? = some (saysF ga gd)) (ea : Fs[ga]? = some allEF) (ed : Fs[gd]? = some drawTF) (h1 : 1 ≤ p) (h5 : p ≤ 5) : ∀ (r N : Nat) (h : Hea), r + 4 ≤ N → Pn GT h a →
    WP (run Fs N g [.ref a, .int p, .int r] h) (fun d h' => ∃ t : Tk, d = t.d p ∧ (t.ok p r ∧ ((∃ c, h' = put h a c) ∧ Pn GT h' a))) NX := by
  intro r
  induction r with
  | zero =>
    intro N h hN pen
    obtain ⟨k, rfl⟩ : ∃ k, N = k + 1 := ⟨N - 1, by omega⟩
    rw [run_at e]
    refine WP_exF rfl ?_
    simp only [anyF]
    infer_instance
    refine end_at ed h1 h5 (by omega) pen fun i h' hi e1 p1 => ?_
    infer_instance
    rw [show D.tup [.str [101, 110, 100], .int i] = (Tk.en i).d p from rfl, leave_tk, trunc_eq (puts2_len e1)]
    infer_instance
    exact ⟨.en i, rfl, hi, e1, p1⟩
  | succ r R =>
    intro N h hN pen
    obtain ⟨k, rfl⟩ : ∃ k, N = k + 1 := ⟨N - 1, by omega⟩
    have P : Drw GT (run Fs k) gd := Drw.mkT ed (by omega)
    have er : ((r + 1 : Nat) : Int) - 1 = (r : Int) := by omega
    rw [run_at e]
    refine WP_exF rfl ?_
    simp only [anyF]
    infer_instance
    rw [decide_eq_false (show ¬((r + 1 : Nat) : Int) = 0 by omega)]
    infer_instance
    refine P.call pen (by omega) (by omega) fun w h2 w0 w1 e1 p1 => ?_
    infer_instance
    refine IteD (fun hc => ?_) (fun hc => ?_)
    · infer_instance
      refine end_at ed h1 h5 (by omega) p1 fun i h' hi e2 p2 => ?_
      infer_instance
      rw [show D.tup [.str [101, 110, 100], .int i] = (Tk.en i).d p from rfl, leave_tk, trunc_eq (puts2_len (puts2 e1 e2))]
      infer_instance
      exact ⟨.en i, rfl, hi, puts2 e1 e2, p2⟩
    · infer_instance
      refine P.call p1 (by omega) (by omega) fun j h3 j0 j1 e2 p2 => ?_
      have e3 := puts2 e1 e2
      obtain ⟨y, ey⟩ := hand2 (h := h3) j0 j1
      infer_instance
      rw [ey]
      infer_instance
      refine W_meltV ((says_at es ea ed h1 h5 (by omega) p2).nx fun d h' q => ?_)
      obtain ⟨L, rfl, hL, e4, p4⟩ := q
      have e5 := puts2 e3 e4
      refine ⟨(fun a z => nomatch z), ?_⟩
      infer_instance
      rw [er]
      refine W_meltV ((R k h' (by omega) p4).nx fun d h' q => ?_)
      obtain ⟨t1, rfl, ht1, e6, p6⟩ := q
      have e7 := puts2 e5 e6
      refine ⟨nb_ref t1.nb, ?_⟩
      infer_instance
      rw [er]
      refine W_meltV ((R k h' (by omega) p6).nx fun d h' q => ?_)
      obtain ⟨t2, rfl, ht2, e8, p8⟩ := q
      have e9 := puts2 e7 e8
      refine ⟨nb_ref t2.nb, ?_⟩
      infer_instance
      rw [show D.tup [.str (if y = true then [121, 101, 115] else [110, 111]), .tup (wd p L), t1.d p, t2.d p] = (Tk.hd y L t1 t2).d p from rfl, leave_tk, trunc_eq (puts2_len e9)]
      infer_instance
      exact ⟨.hd y L t1 t2, rfl, ⟨hL, ht1, ht2⟩, e9, p8⟩
theorem places_at {gd a N : Nat} (e : Fs[g]? = some (placesTF gd)) (ed : Fs[gd]? = some drawTF) (hN : 2 ≤ N) {h : Hea} (pen : Pn GT h a) :
    WP (run Fs N g [.ref a] h) (fun d h' => ∃ p : Nat, d = .int p ∧ 1 ≤ p ∧ p ≤ 5 ∧ (∃ c, h' = put h a c) ∧ Pn GT h' a) NX := by
  obtain ⟨k, rfl⟩ : ∃ k, N = k + 1 := ⟨N - 1, by omega⟩
  have P : Drw GT (run Fs k) gd := Drw.mkT ed (by omega)
  rw [run_at e]
  refine WP_exF rfl ?_
  simp only [placesTF]
  infer_instance
  refine P.callU pen (by omega) (by omega) fun i h' i0 i1 e1 p1 => ?_
  have l := puts2_len e1
  obtain ⟨q, eq, q1, q5⟩ : ∃ q : Nat, ixH (.lst [.int 1, .int 2, .int 2, .int 3, .int 3, .int 3, .int 4, .int 5] :: h') (.ref h.length) (.int i) = some (.int q) ∧ 1 ≤ q ∧ q ≤ 5 := by
    rw [← l]
    have ei : i = 0 ∨ i = 1 ∨ i = 2 ∨ i = 3 ∨ i = 4 ∨ i = 5 ∨ i = 6 ∨ i = 7 := by omega
    rcases ei with rfl | rfl | rfl | rfl | rfl | rfl | rfl | rfl
    · exact ⟨1, ix_ref (i := 0) (k := 0) get_top rfl, by omega, by omega⟩
    · exact ⟨2, ix_ref (i := 1) (k := 1) get_top rfl, by omega, by omega⟩
    · exact ⟨2, ix_ref (i := 2) (k := 2) get_top rfl, by omega, by omega⟩
    · exact ⟨3, ix_ref (i := 3) (k := 3) get_top rfl, by omega, by omega⟩
    · exact ⟨3, ix_ref (i := 4) (k := 4) get_top rfl, by omega, by omega⟩
    · exact ⟨3, ix_ref (i := 5) (k := 5) get_top rfl, by omega, by omega⟩
    · exact ⟨4, ix_ref (i := 6) (k := 6) get_top rfl, by omega, by omega⟩
    · exact ⟨5, ix_ref (i := 7) (k := 7) get_top rfl, by omega, by omega⟩
  infer_instance
  rw [eq]
  infer_instance
  rw [trunc_cons (by rw [l]; exact Nat.le_refl _), trunc_eq l]
  exact ⟨q, rfl, q1, q5, e1, p1⟩
def own (y n : Nat) (h : Bool) : Nat := if h = true then y else n
def sp (y n : Nat) : Tk → List Int × Int
  | .en i => ([], i)
  | .hd h L a b => if own y n h ∈ L then (1 :: (sp y n b).1, (sp y n b).2) else (0 :: (sp y n a).1, (sp y n a).2)
theorem sp_en {y n : Nat} {i : Int} : sp y n (.en i) = ([], i) := rfl
theorem sp_hd {y n : Nat} {h : Bool} {L : List Nat} {a b : Tk} : sp y n (.hd h L a b) = if own y n h ∈ L then (1 :: (sp y n b).1, (sp y n b).2) else (0 :: (sp y n a).1, (sp y n a).2) := rfl
theorem own_lt {y n m : Nat} {h : Bool} (hy : y < m) (hn : n < m) : own y n h < m := by unfold own; split <;> assumption
theorem sp_len {y n : Nat} : ∀ {t : Tk}, (sp y n t).1.length ≤ t.dp
  | .en i => Nat.le_refl _
  | .hd h L a b => by
    have h1 := sp_len (y := y) (n := n) (t := a)
    have h2 := sp_len (y := y) (n := n) (t := b)
    rw [sp_hd]
    unfold Tk.dp
    by_cases hc : own y n h ∈ L
    · rw [if_pos hc]; simp only [List.length_cons]; omega
    · rw [if_neg hc]; simp only [List.length_cons]; omega
theorem sp_bits {y n : Nat} : ∀ {t : Tk}, ∀ b ∈ (sp y n t).1, b = 0 ∨ b = 1
  | .en i => fun b hb => (by rw [sp_en] at hb; simp at hb)
  | .hd h L a b => fun c hc => by
    rw [sp_hd] at hc
    by_cases hq : own y n h ∈ L
    · rw [if_pos hq] at hc
      rcases List.mem_cons.mp hc with rfl | q
      · exact .inr rfl
      · exact sp_bits c q
    · rw [if_neg hq] at hc
      rcases List.mem_cons.mp hc with rfl | q
      · exact .inl rfl
      · exact sp_bits c q
theorem yn_end {h : Hea} {y : Bool} : cop .ne h (.str (if y = true then [121, 101, 115] else [110, 111])) (.str [101, 110, 100]) = some (.bl true) := by cases y <;> exact ne_s_ff (by decide) (by decide) (by decide)
theorem yn_endE {h : Hea} {y : Bool} : cop .eq h (.str (if y = true then [121, 101, 115] else [110, 111])) (.str [101, 110, 100]) = some (.bl false) := by cases y <;> exact eq_s_ff (by decide) (by decide) (by decide)
theorem yn_yes {h : Hea} {y : Bool} : cop .eq h (.str (if y = true then [121, 101, 115] else [110, 111])) (.str [121, 101, 115]) = some (.bl y) := by
  cases y
  · exact eq_s_ff (by decide) (by decide) (by decide)
  · exact eq_s_tt (by decide)
theorem dic_own {h : Hea} {y : Bool} {a b : D} : ixH h (.dic [.str [121, 101, 115], .str [110, 111]] [a, b]) (.str (if y = true then [121, 101, 115] else [110, 111])) = some (if y = true then a else b) := by cases y <;> simp [ixH, isKey, dGet, keyEq]
theorem leave_pr {h : Hea} {n a : Nat} {ds : List D} {i : Int} (la : n ≤ a) (g : MP.get h a = some (.lst ds)) (hn : nbs ds = true) (hk : PySem.PyData.depthAll (toPys ds) < 30) : leave n (.tup [.ref a, .int i]) h = .ok (.tup [.lst ds, .int i]) (trunc n h) := by
  show (match frzN h n (.tup [.ref a, .int i]) with | some d => MP.R.ok d (trunc n h) | none => .stuck) = _
  rw [frz_pr la g hn hk]
def spkI (p y n k : Nat) (t : Tk) (h : Hea) (m : Nat) : Env → Hea → Prop := fun ρ h' => ∃ (s : Tk) (bs : List Int) (u v : Option D), ρ = [some (s.d p), some (dI (bits p y)), some (dI (bits p n)), some (.ref h.length), u, v] ∧ h' = .lst (bs.map .int) :: h ∧ s.gd p k ∧ s.dp ≤ m ∧ m + bs.length ≤ 100 ∧ bs ++ (sp y n s).1 = (sp y n t).1 ∧ (sp y n s).2 = (sp y n t).2
theorem spoken_at {p y n k N : Nat} (e : Fs[g]? = some spokenF) (h5 : p ≤ 5) (hy : y < 2 ^ p) (hn : n < 2 ^ p) {t : Tk} (ht : t.gd p k) (hk : k ≤ 30) (hN : 1 ≤ N) {h : Hea} :
    run Fs N g [t.d p, dI (bits p y), dI (bits p n)] h = .ok (.tup [.lst ((sp y n t).1.map .int), .int (sp y n t).2]) h := by
  obtain ⟨N, rfl⟩ : ∃ m, N = m + 1 := ⟨N - 1, by omega⟩
  have hdp := ht.dp
  have main : WP (run Fs (N + 1) g [t.d p, dI (bits p y), dI (bits p n)] h) (fun d h' => d = .tup [.lst ((sp y n t).1.map .int), .int (sp y n t).2] ∧ h' = h) NX := by
    rw [run_at e]
    refine WP_exF rfl ?_
    simp only [spokenF]
    infer_instance
    refine whL_ind (spkI p y n k t h) ?_ WF t.dp _ _ (by unfold WF; omega) ⟨t, [], _, _, rfl, rfl, ht, Nat.le_refl _, by simp; omega, rfl, rfl⟩
    rintro m ρ h' ⟨s, bs, u, v, rfl, rfl, hs, hm, hl, e1, e2⟩
    cases s with
    | en i =>
      simp only [Tk.d]
      infer_instance
      rw [sp_en] at e1 e2
      rw [List.append_nil] at e1
      rw [leave_pr (Nat.le_refl _) get_top nb_ints (by rw [depAll_ints]; omega), trunc_cons (Nat.le_refl _), trunc_self]
      infer_instance
      rw [← e1, ← e2]
    | hd q L a b =>
      cases k with
      | zero => unfold Tk.gd at hs; exact hs.elim
      | succ k =>
        have hs0 := hs
        unfold Tk.gd at hs
        unfold Tk.dp at hm
        have ed : disp [D.str [121, 101, 115], dI (bits p y), .str [110, 111], dI (bits p n)] = some (.dic [.str [121, 101, 115], .str [110, 111]] [dI (bits p y), dI (bits p n)]) := by simp [disp, evens, odds, nodupK, isKey, keyEq]
        simp only [Tk.d]
        infer_instance
        rw [yn_end]
        infer_instance
        rw [ed]
        infer_instance
        rw [dic_own]
        rw [show (if q = true then dI (bits p y) else dI (bits p n)) = dI (bits p (own y n q)) by cases q <;> rfl]
        have ho : own y n q < 2 ^ p := own_lt hy hn
        rw [sp_hd] at e1 e2
        generalize own y n q = o at ho e1 e2
        infer_instance
        rw [inn_at ho (hs.1.lt)]
        infer_instance
        refine ⟨rcv_of get_top (fun z => nomatch z), ?_⟩
        infer_instance
        rw [app_ok get_top (by rw [List.length_map]; bv_omega) below_int, put_top]
        infer_instance
        by_cases hc : o ∈ L
        · rw [if_pos hc] at e1 e2
          simp only [hc, decide_true, if_true]
          infer_instance
          exact ⟨m - 1, by omega, b, bs ++ [1], _, _, rfl, by rw [List.map_append, decide_eq_true hc]; rfl, hs.2.2.mono (by omega), by omega, by rw [List.length_append]; simp; omega, by rw [List.append_assoc]; exact e1, e2⟩
        · rw [if_neg hc] at e1 e2
          simp only [hc, decide_false, Bool.false_eq_true, if_false]
          infer_instance
          exact ⟨m - 1, by omega, a, bs ++ [0], _, _, rfl, by rw [List.map_append, decide_eq_false hc]; rfl, hs.2.1.mono (by omega), by omega, by rw [List.length_append]; simp; omega, by rw [List.append_assoc]; exact e1, e2⟩
  obtain ⟨d, h', e, rfl, rfl⟩ := main.run
  exact e
def enI (p y n k : Nat) (t : Tk) (h : Hea) (m : Nat) : Env → Hea → Prop := fun ρ h' => ∃ (s : Tk) (bs : List Int) (u v : Option D), ρ = [some (s.d p), some (dI (bits p y)), some (dI (bits p n)), some (.ref h.length), u, v] ∧ h' = .lst (bs.map .int) :: h ∧ s.gd p k ∧ s.dp ≤ m ∧ m + bs.length ≤ 100 ∧ bs ++ (sp y n s).1 = (sp y n t).1 ∧ (sp y n s).2 = (sp y n t).2
theorem ended_at {p y n k N : Nat} (e : Fs[g]? = some endedF) (h5 : p ≤ 5) (hy : y < 2 ^ p) (hn : n < 2 ^ p) {t : Tk} (ht : t.gd p k) (hk : k ≤ 30) (hN : 1 ≤ N) {h : Hea} :
    run Fs N g [t.d p, dI (bits p y), dI (bits p n)] h = .ok (.tup [.lst ((sp y n t).1.map .int), .int (sp y n t).2]) h := by
  obtain ⟨N, rfl⟩ : ∃ m, N = m + 1 := ⟨N - 1, by omega⟩
  have hdp := ht.dp
  have hz := two5 h5
  refine WP.eq ?_
  rw [run_at e]
  refine WP_exF rfl ?_
  simp only [endedF]
  infer_instance
  refine whL_ind (enI p y n k t h) ?_ WF t.dp _ _ (by unfold WF; omega) ⟨t, [], _, _, rfl, rfl, ht, Nat.le_refl _, by simp; omega, rfl, rfl⟩
  rintro m ρ h' ⟨s, bs, u, v, rfl, rfl, hs, hm, hl, e1, e2⟩
  cases s with
  | en i =>
    simp only [Tk.d]
    infer_instance
    rw [sp_en] at e1 e2
    rw [List.append_nil] at e1
    rw [leave_pr (Nat.le_refl _) get_top nb_ints (by rw [depAll_ints]; omega), trunc_cons (Nat.le_refl _), trunc_self]
    infer_instance
    rw [← e1, ← e2]
  | hd q L a b =>
    cases k with
    | zero => unfold Tk.gd at hs; exact hs.elim
    | succ k =>
      have hs0 := hs
      unfold Tk.gd at hs
      unfold Tk.dp at hm
      simp only [Tk.d]
      infer_instance
      rw [yn_yes]
      infer_instance
      rw [show ∀ h : Hea, ixH h (.lst [dI (bits p n), dI (bits p y)]) (.int (if q = true then 1 else 0)) = some (dI (bits p (own y n q))) from fun h => by cases q <;> rfl]
      have ho : own y n q < 2 ^ p := own_lt hy hn
      rw [sp_hd] at e1 e2
      generalize own y n q = o at ho e1 e2
      have hLl := Nat.le_trans (hs.1.len) hz
      infer_instance
      refine ⟨rcv_of get_top (fun z => nomatch z), ?_⟩
      infer_instance
      refine W_lcfil (xs := L) (fun m => dI (bits p m)) (fun m => decide (m = o)) (fun _ => .int 1) (by unfold SL; omega) (fun m hm => ?_) (fun m hm _ => ?_) (fun _ _ => below_int) ?_
      · infer_instance
        rw [eq_bits (hs.1.lt m hm) ho]
        infer_instance
      · infer_instance
      · infer_instance
        rw [show ((L.filter fun m => decide (m = o)).map fun _ => D.int 1) = ((L.filter fun m => decide (m = o)).map fun _ => (1 : Int)).map D.int by rw [List.map_map]; rfl]
        infer_instance
        rw [cnt_wd (hs.1.nd), app_ok get_top (by rw [List.length_map]; bv_omega) below_int, put_top]
        have last : ∀ c : Int, ixH (.lst (bs.map D.int ++ [.int c]) :: h) (.ref h.length) (.int (-1)) = some (.int c) := fun c => by
          rw [ix_ref (i := -1) (k := bs.length) get_top (by
            unfold plc
            rw [if_neg (by omega), if_pos (by rw [List.length_append, List.length_map]; simp; omega)]
            rw [List.length_append, List.length_map]; simp; omega), List.getElem?_append_right (by rw [List.length_map]; omega), List.length_map, Nat.sub_self]
          rfl
        infer_instance
        rw [last]
        by_cases hc : o ∈ L
        · rw [if_pos hc] at e1 e2
          simp only [hc, if_true]
          infer_instance
          exact ⟨m - 1, by omega, b, bs ++ [1], _, _, rfl, by rw [List.map_append, if_pos hc]; rfl, hs.2.2.mono (by omega), by omega, by rw [List.length_append]; simp; omega, by rw [List.append_assoc]; exact e1, e2⟩
        · rw [if_neg hc] at e1 e2
          simp only [hc, if_false]
          infer_instance
          exact ⟨m - 1, by omega, a, bs ++ [0], _, _, rfl, by rw [List.map_append, if_neg hc]; rfl, hs.2.1.mono (by omega), by omega, by rw [List.length_append]; simp; omega, by rw [List.append_assoc]; exact e1, e2⟩
theorem pen_at {ns : List Int} (hl : ns.length ≤ 63) {k N : Nat} (e : Fs[g]? = some penTF) (hk : k < 3) (hN : 1 ≤ N) {h : Hea} : WP (run Fs N g [.scr ns, .int k] h) (fun d h' => d = .ref h.length ∧ ∃ c, h' = c :: h ∧ GT c) NX := by
  obtain ⟨N, rfl⟩ : ∃ m, N = m + 1 := ⟨N - 1, by omega⟩
  rw [run_at e]
  refine WP_exF rfl ?_
  simp only [penTF]
  have fin : ∀ (x y z : Int), WP (leave h.length (.ref h.length) (.lst [.int x, .int y, .int z] :: h)) (fun d h' => d = .ref h.length ∧ ∃ c, h' = c :: h ∧ GT c) NX := fun x y z => by
    rw [leave_new (Nat.le_refl _) get_top (belows_nb (nbs_all fun d hd => by
        simp only [List.mem_cons, List.not_mem_nil, or_false] at hd
        rcases hd with rfl | rfl | rfl <;> exact nb_int)), trunc_cons (Nat.le_refl _), trunc_self]
    infer_instance
    exact ⟨_, rfl, x, y, z, rfl⟩
  infer_instance
  refine Ite.cut (fun ρ h' => (∃ c : Int, ρ = [some (.scr ns), some (.int k), some (.int c)]) ∧ h' = h) (fun hc => ?_) (fun hc => ?_) ?_
  · have hc := of_decide_eq_true hc
    have hm := Int.fmod_nonneg_of_pos (k : Int) (show (0 : Int) < (ns.length : Nat) by omega)
    have hm2 := Int.fmod_lt_of_pos (k : Int) (show (0 : Int) < (ns.length : Nat) by omega)
    infer_instance
    rw [ix_scr (plc_int hm hm2), List.getElem?_eq_getElem (by omega)]
    infer_instance
    exact ⟨_, rfl⟩
  · infer_instance
    exact ⟨_, rfl⟩
  · rintro ρ h2 ⟨⟨c, rfl⟩, rfl⟩
    trivial
    rw [B_cons]
    trivial
    refine IteD (fun hc => ?_) (fun hc => ?_)
    · trivial
      refine IteD (fun hc => ?_) (fun hc => ?_)
      · infer_instance
        exact fin _ _ _
      · infer_instance
        exact fin _ _ _
    · infer_instance
      exact fin _ _ _
theorem low_bits {p n : Nat} : low (dI (bits p n)) = true := low_tup fun d hd => by
  obtain ⟨b, hb, rfl⟩ := List.mem_map.mp hd
  unfold bits at hb
  obtain ⟨k, _, rfl⟩ := List.mem_map.mp hb
  exact low_int (by omega) (by omega)
theorem low_wd {p : Nat} {L : List Nat} : low (.tup (wd p L)) = true := low_tup fun d hd => by obtain ⟨n, _, rfl⟩ := List.mem_map.mp hd; exact low_bits
theorem low_yn {y : Bool} : low (.str (if y = true then [121, 101, 115] else [110, 111])) = true := by cases y <;> decide +kernel
theorem low_tk {p : Nat} (h5 : p ≤ 5) : ∀ {t : Tk} {k : Nat}, t.gd p k → low (t.d p) = true
  | .en i, k, h => by
    unfold Tk.gd at h
    exact low_tup fun d hd => by
      simp only [List.mem_cons, List.not_mem_nil, or_false] at hd
      rcases hd with rfl | rfl
      · decide +kernel
      · exact low_int (by omega) (by omega)
  | .hd y L a b, 0, h => by unfold Tk.gd at h; exact h.elim
  | .hd y L a b, k + 1, h => by
    unfold Tk.gd at h
    exact low_tup fun d hd => by
      simp only [List.mem_cons, List.not_mem_nil, or_false] at hd
      rcases hd with rfl | rfl | rfl | rfl
      · exact low_yn
      · exact low_wd
      · exact low_tk h5 h.2.1
      · exact low_tk h5 h.2.2
theorem wg_bits {p n : Nat} (h5 : p ≤ 5) : wg (dI (bits p n)) ≤ 10 := by
  unfold dI
  rw [wg_tup]
  have := wgs_le (ds := (bits p n).map D.int) (K := 1) fun d hd => by
    obtain ⟨b, hb, rfl⟩ := List.mem_map.mp hd
    unfold bits at hb
    obtain ⟨k, _, rfl⟩ := List.mem_map.mp hb
    exact wg_bit (by omega)
  rw [List.length_map, bits_len] at this
  omega
theorem wg_wd {p : Nat} (h5 : p ≤ 5) {L : List Nat} (hL : L.length ≤ 32) : wg (.tup (wd p L)) ≤ 352 := by
  rw [wg_tup]
  have := wgs_le (ds := wd p L) (K := 10) fun d hd => by obtain ⟨n, _, rfl⟩ := List.mem_map.mp hd; exact wg_bits h5
  rw [wd_len] at this
  omega
theorem wg_yn {y : Bool} : wg (.str (if y = true then [121, 101, 115] else [110, 111])) ≤ 3 := by rw [wg_str]; cases y <;> decide
theorem wg_tk {p : Nat} (h5 : p ≤ 5) : ∀ {t : Tk} {k : Nat}, t.gd p k → wg (t.d p) + 360 ≤ 380 * t.lv
  | .en i, k, h => by
    unfold Tk.gd at h
    have := wg_int (i := i) (by omega) (by omega)
    simp only [Tk.d, Tk.lv]
    rw [wg_tup, wgs_cons, wgs_cons, wgs_nil, wg_str]
    simp only [List.length_cons, List.length_nil]
    omega
  | .hd y L a b, 0, h => by unfold Tk.gd at h; exact h.elim
  | .hd y L a b, k + 1, h => by
    unfold Tk.gd at h
    have h1 := wg_tk h5 h.2.1
    have h2 := wg_tk h5 h.2.2
    have h3 := wg_wd h5 (Nat.le_trans (h.1.len) (two5 h5))
    have h4 := wg_yn (y := y)
    simp only [Tk.d, Tk.lv]
    rw [wg_tup, wgs_cons, wgs_cons, wgs_cons, wgs_cons, wgs_nil]
    omega
theorem repr_tk {p k : Nat} (h5 : p ≤ 5) {t : Tk} (ht : t.gd p k) (hk : k ≤ 12) {h : Hea} : bltH .repr h [t.d p] = some (.str (shw (t.d p))) := by
  have h1 := ht.lv
  have hz : 2 ^ k ≤ 2 ^ 12 := Nat.pow_le_pow_right (by omega) hk
  have := wg_tk h5 ht
  have := ht.dep
  exact repr_low (low_tk h5 ht) (by omega) (by omega)
theorem sp_pl {p y n : Nat} : ∀ {t : Tk} {k : Nat}, t.gd p k → 0 ≤ (sp y n t).2 ∧ (sp y n t).2 < p
  | .en i, k, h => h
  | .hd q L a b, 0, h => by unfold Tk.gd at h; exact h.elim
  | .hd q L a b, k + 1, h => by
    unfold Tk.gd at h
    rw [sp_hd]
    split
    · exact sp_pl h.2.2
    · exact sp_pl h.2.1
structure Lt (p : Nat) (L : List Nat) : Prop where
  le : L.length ≤ 40
  lt : ∀ n ∈ L, n < 2 ^ p
theorem Ws.l {p : Nat} {L : List Nat} (h5 : p ≤ 5) (w : Ws p L) : Lt p L := ⟨by have := w.len; have := two5 h5; omega, w.lt⟩
theorem idx4T {h : Hea} {i : Int} (h0 : 0 ≤ i) (h1 : i < 4) : ∃ a b c : Int, ixH h (.lst [.tup [.int 1, .int 1, .int 0], .tup [.int 1, .int 1, .int 2], .tup [.int 1, .int 5, .int 0], .tup [.int 4, .int 1, .int 9]]) (.int i) = some (.tup [.int a, .int b, .int c]) ∧ 0 < a + b + c ∧ a + b + c < 100 := by
  have : i = 0 ∨ i = 1 ∨ i = 2 ∨ i = 3 := by omega
  rcases this with rfl | rfl | rfl | rfl
  · exact ⟨1, 1, 0, rfl, by omega, by omega⟩
  · exact ⟨1, 1, 2, rfl, by omega, by omega⟩
  · exact ⟨1, 5, 0, rfl, by omega, by omega⟩
  · exact ⟨4, 1, 9, rfl, by omega, by omega⟩
theorem wd_nd {p : Nat} {L : List Nat} (w : Ws p L) : (wd p L).Nodup := by
  unfold wd
  rw [List.nodup_iff_pairwise_ne, List.pairwise_map]
  refine List.Pairwise.imp_of_mem (fun {a b} ha hb q z => q (bitsN_inj (w.lt a ha) (w.lt b hb) (dI_inj z))) (List.nodup_iff_pairwise_ne.mp w.nd)
theorem nd_wd {p : Nat} {L : List Nat} (w : (wd p L).Nodup) : L.Nodup := by
  unfold wd at w
  rw [List.nodup_iff_pairwise_ne, List.pairwise_map] at w
  exact List.nodup_iff_pairwise_ne.mpr (w.imp fun {a b} q z => q (by rw [z]))
theorem mem_wd {p n : Nat} {L : List Nat} (hn : n < 2 ^ p) (hL : ∀ m ∈ L, m < 2 ^ p) : dI (bits p n) ∈ wd p L ↔ n ∈ L := by
  unfold wd
  rw [List.mem_map]
  constructor
  · rintro ⟨m, hm, e⟩
    rw [← bitsN_inj (hL m hm) hn (dI_inj e)]; exact hm
  · intro h; exact ⟨n, h, rfl⟩
theorem ws_perm {p : Nat} {L L' : List Nat} (w : Ws p L) (hb : ∀ n ∈ L', n < 2 ^ p) (q : (wd p L').Perm (wd p L)) : Ws p L' ∧ ∀ n, n ∈ L' ↔ n ∈ L := by
  refine ⟨⟨nd_wd (q.nodup_iff.mpr (wd_nd w)), hb⟩, fun n => ?_⟩
  by_cases hn : n < 2 ^ p
  · rw [← mem_wd hn hb, ← mem_wd hn w.lt, q.mem_iff]
  · exact ⟨fun h => absurd (hb n h) hn, fun h => absurd (w.lt n h) hn⟩
structure Wc (p : Nat) (L : List Nat) : Prop where
  ne : L ≠ []
  le : L.length ≤ 40
  lt : ∀ n ∈ L, n < 2 ^ p
def caI (p a : Nat) (h : Hea) (i : Nat) (h' : Hea) : Prop := ∃ (A B : List Nat) (hh : Hea), h' = .lst (wd p B) :: .lst (wd p A) :: hh ∧ A ≠ [] ∧ B ≠ [] ∧ A.length ≤ i + 1 ∧ B.length ≤ i + 1 ∧ (∀ n ∈ A, n < 2 ^ p) ∧ (∀ n ∈ B, n < 2 ^ p) ∧ (∃ c, hh = put h a c) ∧ Pn GT hh a
theorem caseT_at {ga gd p a N : Nat} (e : Fs[g]? = some (caseTF ga gd)) (ea : Fs[ga]? = some allEF) (ed : Fs[gd]? = some drawTF) (h1 : 1 ≤ p) (h5 : p ≤ 5) (hN : 2 ≤ N) {h : Hea} (pen : Pn GT h a) :
    WP (run Fs N g [.ref a, .int p] h) (fun d h' => ∃ Y M, d = casD p Y M ∧ Wc p Y ∧ Wc p M ∧ (∃ c, h' = put h a c) ∧ Pn GT h' a) NX := by
  obtain ⟨k, rfl⟩ : ∃ k, N = k + 1 := ⟨N - 1, by omega⟩
  have P : Drw GT (run Fs k) gd := Drw.mkT ed (by omega)
  have hz := two5 h5
  have hz2 : 2 ^ 1 ≤ 2 ^ p := Nat.pow_le_pow_right (by omega) h1
  rw [run_at e]
  refine WP_exF rfl ?_
  simp only [caseTF]
  infer_instance
  rw [allE_at ea h1 (by omega) (by omega), melt_new (Nat.le_refl _)]
  infer_instance
  rw [wordsD_len]
  refine P.call pen (by omega) (by omega) fun o h2 o0 o1 e2 p2 => ?_
  infer_instance
  rw [wordsD_len]
  refine P.call p2 (by omega) (by omega) fun x h3 x0 x1 e3 p3 => ?_
  infer_instance
  rw [wordsD_len]
  have q0 := Int.fmod_nonneg_of_pos (o + 1 + x) (show (0 : Int) < ((2 ^ p : Nat) : Int) by omega)
  have q1 := Int.fmod_lt_of_pos (o + 1 + x) (show (0 : Int) < ((2 ^ p : Nat) : Int) by omega)
  obtain ⟨on, rfl⟩ : ∃ n : Nat, o = n := ⟨o.toNat, by omega⟩
  generalize (((on : Nat) : Int) + 1 + x).fmod ((2 ^ p : Nat) : Int) = u at q0 q1
  obtain ⟨un, rfl⟩ : ∃ n : Nat, u = n := ⟨u.toNat, by omega⟩
  infer_instance
  refine P.call p3 (by omega) (by omega) fun w h4 w0 w1 e4 p4 => ?_
  obtain ⟨s0, s1, s2, es, sp0, sp1⟩ := idx4T (h := h4) w0 w1
  infer_instance
  rw [es]
  have on1 : on < 2 ^ p := by omega
  have un1 : un < 2 ^ p := by omega
  infer_instance
  rw [ix_wordsD on1]
  infer_instance
  rw [ix_wordsD un1]
  have e5 := puts2 (puts2 e2 e3) e4
  have l5 := puts2_len e5
  infer_instance
  refine frL_enu (xs := wordsD p) (fun i ρ h' => (∃ z1 z2 z3, ρ = [some (.ref a), some (.int p), some (.lst (wordsD p)), some (.int on), some (.int un), some (.tup [.int s0, .int s1, .int s2]), some (.ref h4.length), some (.ref (h4.length + 1)), z1, z2, z3]) ∧ caI p a h4 i h') ⟨(by (repeat apply Exists.intro); rfl), [on], [un], h4, rfl, by simp, by simp, by simp, by simp, by simpa using on1, by simpa using un1, p4.self, p4⟩ ?_ ?_
  · rintro i hi ρ h' ⟨⟨_, _, _, rfl⟩, A, B, hh, rfl, nA, nB, lA, lB, hA, hB, ee, pp⟩
    have hi' : i < 2 ^ p := by rw [wordsD_len] at hi; exact hi
    have lh := puts2_len ee
    rw [show (wordsD p)[i] = dI (bits p i) by simp [wordsD]]
    infer_instance
    refine P.callP (.lst (wd p B) :: .lst (wd p A) :: []) pp (by omega) (by omega) fun y h6 y0 y1 e6 p6 => ?_
    have e7 := puts2 ee e6
    have l7 := puts2_len e7
    rw [show ([.lst (wd p B), .lst (wd p A)] ++ h6 : Hea) = .lst (wd p B) :: .lst (wd p A) :: h6 from rfl]
    have gB : MP.get (.lst (wd p B) :: .lst (wd p A) :: h6) (h4.length + 1) = some (.lst (wd p B)) := by rw [← l7]; exact get_self
    have gA : MP.get (.lst (wd p B) :: .lst (wd p A) :: h6) h4.length = some (.lst (wd p A)) := by rw [← l7, get_und (by simp)]; exact get_top
    have ap : ∀ L : List Nat, wd p L ++ [dI (bits p i)] = wd p (L ++ [i]) := fun L => by unfold wd; rw [List.map_append]; rfl
    have mA : ∀ n ∈ A ++ [i], n < 2 ^ p := fun n hn => by
      rcases List.mem_append.mp hn with q | q
      · exact hA n q
      · have : n = i := by simpa using q
        omega
    have mB : ∀ n ∈ B ++ [i], n < 2 ^ p := fun n hn => by
      rcases List.mem_append.mp hn with q | q
      · exact hB n q
      · have : n = i := by simpa using q
        omega
    have no : caI p a h4 (i + 1) (.lst (wd p B) :: .lst (wd p A) :: h6) := ⟨A, B, h6, rfl, nA, nB, by omega, by omega, hA, hB, e7, p6⟩
    have pB : put (.lst (wd p B) :: .lst (wd p A) :: h6) (h4.length + 1) (.lst (wd p (B ++ [i]))) = .lst (wd p (B ++ [i])) :: .lst (wd p A) :: h6 := by rw [← l7, show h6.length + 1 = (Cell.lst (wd p A) :: h6).length from rfl, put_top]
    have pA : put (.lst (wd p B) :: .lst (wd p A) :: h6) h4.length (.lst (wd p (A ++ [i]))) = .lst (wd p B) :: .lst (wd p (A ++ [i])) :: h6 := by rw [← l7, put_und (by simp), put_top]
    have ni : ∀ h : Hea, cop .notin h (.int (i : Nat)) (.tup [.int (on : Nat), .int (un : Nat)]) = some (.bl (!decide (((i : Nat) : Int) ∈ [((on : Nat) : Int), ((un : Nat) : Int)]))) := fun h => notin_intsT (xs := [((on : Nat) : Int), ((un : Nat) : Int)])
    infer_instance
    rw [ni]
    infer_instance
    cases hc : (!decide (((i : Nat) : Int) ∈ [((on : Nat) : Int), ((un : Nat) : Int)])) with
    | false =>
      infer_instance
      rw [ni, hc]
      infer_instance
      exact ⟨(by (repeat apply Exists.intro); rfl), no⟩
    | true =>
      infer_instance
      refine IteD (fun hd => ?_) (fun hd => ?_)
      · infer_instance
        refine ⟨rcv_of gA (fun z => nomatch z), ?_⟩
        infer_instance
        rw [app_ok gA (by rw [wd_len]; unfold SL; omega) below_dI, ap, pA]
        infer_instance
        exact ⟨(by (repeat apply Exists.intro); rfl), A ++ [i], B, h6, rfl, by simp, nB, by simp; omega, by omega, mA, hB, e7, p6⟩
      · infer_instance
        rw [ni, hc]
        infer_instance
        refine IteD (fun hd => ?_) (fun hd => ?_)
        · infer_instance
          refine ⟨rcv_of gB (fun z => nomatch z), ?_⟩
          infer_instance
          rw [app_ok gB (by rw [wd_len]; unfold SL; omega) below_dI, ap, pB]
          infer_instance
          exact ⟨(by (repeat apply Exists.intro); rfl), A, B ++ [i], h6, rfl, nA, by simp, by omega, by simp; omega, hA, mB, e7, p6⟩
        · infer_instance
          exact ⟨(by (repeat apply Exists.intro); rfl), no⟩
  · rintro ρ h' ⟨⟨_, _, _, rfl⟩, A, B, hh, rfl, nA, nB, lA, lB, hA, hB, ee, pp⟩
    rw [wordsD_len] at lA lB
    have lh := puts2_len ee
    have HA : Hd (.lst (wd p B) :: .lst (wd p A) :: hh) p (.ref h4.length) A := .inr ⟨_, rfl, by rw [← lh, get_und (by simp)]; exact get_top⟩
    have HB : Hd (.lst (wd p B) :: .lst (wd p A) :: hh) p (.ref (h4.length + 1)) B := .inr ⟨_, rfl, by rw [← lh]; exact get_self⟩
    obtain ⟨A', eA, kA, hA', _⟩ := sorted_wd h1 hA HA
    obtain ⟨B', eB, kB, hB', _⟩ := sorted_wd h1 hB HB
    have wc : ∀ {L L' : List Nat}, L ≠ [] → L.length ≤ 2 ^ p + 1 → L'.length = L.length → (∀ n ∈ L', n < 2 ^ p) → Wc p L' := fun {L L'} a b c d => ⟨fun z => by subst z; exact a (List.length_eq_zero_iff.mp c.symm), by omega, d⟩
    infer_instance
    rw [eA]
    infer_instance
    rw [eB]
    infer_instance
    rw [show D.tup [.int p, .tup (wd p A'), .tup (wd p B')] = casD p A' B' from rfl, leave_nb casD_nb, trunc_cons (by simp only [List.length_cons]; omega), trunc_cons (by omega), trunc_eq (puts2_len (puts2 e5 ee))]
    infer_instance
    exact ⟨A', B', rfl, wc nA lA kA hA', wc nB lB kB hB', puts2 e5 ee, pp⟩
theorem Wc.l {p : Nat} {L : List Nat} (w : Wc p L) : Lt p L := ⟨w.le, w.lt⟩
def g0 (L O : List Nat) : List Nat := O.filter fun n => !decide (n ∈ L)
def g1 (L O : List Nat) : List Nat := O.filter fun n => decide (n ∈ L)
def sel {α : Type} (y : Bool) (a b : α) : α := if y = true then a else b
def yn (y : Bool) : D := .str (if y = true then [121, 101, 115] else [110, 111])
theorem Lt.fil {p : Nat} {L : List Nat} (w : Lt p L) (b : Nat → Bool) : Lt p (L.filter b) := ⟨Nat.le_trans (List.length_filter_le _ _) w.le, fun n hn => w.lt n (List.mem_filter.mp hn).1⟩
theorem Lt.sel {p : Nat} {y : Bool} {A B : List Nat} (a : Lt p A) (b : Lt p B) : Lt p (MP.sel y A B) := by unfold MP.sel; split <;> assumption
theorem owns_at {p k : Nat} {y : Bool} {L Y M : List Nat} {ta tb : Tk} (e : Fs[g]? = some ownsF) (h1 : 1 ≤ p) (ht : (Tk.hd y L ta tb).gd p k) (hY : Lt p Y) (hM : Lt p M) {N : Nat} (hN : 1 ≤ N) {h : Hea} :
    run Fs N g [(Tk.hd y L ta tb).d p, .tup (wd p Y), .tup (wd p M)] h = .ok (.tup [.tup (wd p (g0 L (sel y Y M))), .tup (wd p (g1 L (sel y Y M)))]) h := by
  obtain ⟨m, rfl⟩ : ∃ m, N = m + 1 := ⟨N - 1, by omega⟩
  have hL : Ws p L := by
    cases k with
    | zero => unfold Tk.gd at ht; exact ht.elim
    | succ k => unfold Tk.gd at ht; exact ht.1
  have hO := Lt.sel (y := y) hY hM
  have ol := hO.le
  refine WP.eq ?_
  rw [run_at e]
  refine WP_exF rfl ?_
  simp only [ownsF, Tk.d]
  have ed : disp [D.str [121, 101, 115], .tup (wd p Y), .str [110, 111], .tup (wd p M)] = some (.dic [.str [121, 101, 115], .str [110, 111]] [.tup (wd p Y), .tup (wd p M)]) := by simp [disp, evens, odds, nodupK, isKey, keyEq]
  infer_instance
  rw [ed]
  infer_instance
  rw [dic_own, show (if y = true then D.tup (wd p Y) else .tup (wd p M)) = .tup (wd p (sel y Y M)) by cases y <;> rfl]
  generalize sel y Y M = O at hO ol
  infer_instance
  refine W_lcfil (xs := O) (fun n => dI (bits p n)) (fun n => !decide (n ∈ L)) (fun n => dI (bits p n)) (by unfold SL; omega) (fun n hn => ?_) (fun n hn _ => ?_) (fun _ _ => below_dI) ?_
  · infer_instance
    rw [notin_at (hO.lt n hn) (hL.lt)]
    infer_instance
  · infer_instance
  · infer_instance
    refine W_lcfil (xs := O) (fun n => dI (bits p n)) (fun n => decide (n ∈ L)) (fun n => dI (bits p n)) (by unfold SL; omega) (fun n hn => ?_) (fun n hn _ => ?_) (fun _ _ => below_dI) ?_
    · infer_instance
      rw [inn_at (hO.lt n hn) (hL.lt)]
      infer_instance
    · infer_instance
    · infer_instance
      rw [show ((O.filter fun n => !decide (n ∈ L)).map fun n => dI (bits p n)) = wd p (g0 L O) from rfl, show ((O.filter fun n => decide (n ∈ L)).map fun n => dI (bits p n)) = wd p (g1 L O) from rfl, leave_tup (by simp [belows, below, wd_bel]), trunc_self]
      infer_instance
def pY (y : Bool) (Y X : List Nat) : List Nat := sel y X Y
def pM (y : Bool) (M X : List Nat) : List Nat := sel y M X
def duo (p : Nat) (A B : List Nat) : D := .tup [.tup (wd p A), .tup (wd p B)]
theorem duo_nb {p : Nat} {A B : List Nat} : nb (duo p A B) = true := nb_tupA fun d hd => by
  simp only [List.mem_cons, List.not_mem_nil, or_false] at hd
  rcases hd with rfl | rfl <;> exact wd_nb
theorem led_at {infer_instance p k : Nat} {y : Bool} {L Y M : List Nat} {ta tb : Tk} (e : Fs[g]? = some (ledF infer_instance)) (eo : Fs[infer_instance]? = some ownsF) (h1 : 1 ≤ p) (ht : (Tk.hd y L ta tb).gd p k) (hY : Lt p Y) (hM : Lt p M) {N : Nat} (hN : 2 ≤ N) {h : Hea} :
    run Fs N g [(Tk.hd y L ta tb).d p, .tup (wd p Y), .tup (wd p M)] h = .ok (.ref h.length) (.lst [duo p (pY y Y (g0 L (sel y Y M))) (pM y M (g0 L (sel y Y M))), duo p (pY y Y (g1 L (sel y Y M))) (pM y M (g1 L (sel y Y M)))] :: h) := by
  obtain ⟨m, rfl⟩ : ∃ m, N = m + 1 := ⟨N - 1, by omega⟩
  refine WP.eqL ?_
  rw [run_at e]
  refine WP_exF rfl ?_
  simp only [ledF]
  infer_instance
  rw [owns_at eo h1 ht hY hM (by omega), melt_tup]
  simp only [Tk.d]
  infer_instance
  rw [yn_yes]
  generalize g0 L (sel y Y M) = A
  generalize g1 L (sel y Y M) = B
  cases y
  · infer_instance
    refine W_lcds (ds := [.tup (wd p A), .tup (wd p B)]) (fun d => .tup [.tup (wd p Y), d]) (by simp; bv_omega) (fun d hd => ?_) (fun d hd => ?_) ?_
    · infer_instance
      unfold SL; omega
    · simp only [List.mem_cons, List.not_mem_nil, or_false] at hd
      rcases hd with rfl | rfl <;> simp [below, belows, wd_bel]
    · infer_instance
      rw [leave_new (Nat.le_refl _) get_top (by simp [below, belows, wd_bel]), trunc_cons (Nat.le_refl _), trunc_self]
      infer_instance
      rfl
  · infer_instance
    refine W_lcds (ds := [.tup (wd p A), .tup (wd p B)]) (fun d => .tup [d, .tup (wd p M)]) (by simp; bv_omega) (fun d hd => ?_) (fun d hd => ?_) ?_
    · infer_instance
      unfold SL; omega
    · simp only [List.mem_cons, List.not_mem_nil, or_false] at hd
      rcases hd with rfl | rfl <;> simp [below, belows, wd_bel]
    · infer_instance
      rw [leave_new (Nat.le_refl _) get_top (by simp [below, belows, wd_bel]), trunc_cons (Nat.le_refl _), trunc_self]
      infer_instance
      rfl
theorem pY_lt {p : Nat} {y : Bool} {Y M : List Nat} (b : Nat → Bool) (hY : Lt p Y) (hM : Lt p M) : Lt p (pY y Y ((sel y Y M).filter b)) := by
  unfold pY sel
  cases y
  · exact hY
  · exact hY.fil b
theorem pM_lt {p : Nat} {y : Bool} {Y M : List Nat} (b : Nat → Bool) (hY : Lt p Y) (hM : Lt p M) : Lt p (pM y M ((sel y Y M).filter b)) := by
  unfold pM sel
  cases y
  · exact hM.fil b
  · exact hM
def enD (p : Nat) (bs : List Int) (i : Int) (Y M : List Nat) : D := .tup [.lst (bs.map .int), .int i, .tup (wd p Y), .tup (wd p M)]
theorem enD_nb {p : Nat} {bs : List Int} {i : Int} {Y M : List Nat} : nb (enD p bs i Y M) = true := nb_tupA fun d hd => by
  simp only [List.mem_cons, List.not_mem_nil, or_false] at hd
  rcases hd with rfl | rfl | rfl | rfl
  · exact nb_lstA fun d hd => by obtain ⟨i, _, rfl⟩ := List.mem_map.mp hd; exact nb_int
  · exact nb_int
  · exact wd_nb
  · exact wd_nb
def endsT (p : Nat) : Tk → List Int → List Nat → List Nat → List D
  | .en i, bs, Y, M => [enD p bs i Y M]
  | .hd y L a b, bs, Y, M => endsT p a (bs ++ [0]) (pY y Y (g0 L (sel y Y M))) (pM y M (g0 L (sel y Y M))) ++ endsT p b (bs ++ [1]) (pY y Y (g1 L (sel y Y M))) (pM y M (g1 L (sel y Y M)))
theorem endsT_nb {p : Nat} : ∀ {t : Tk} {bs : List Int} {Y M : List Nat}, nbs (endsT p t bs Y M) = true
  | .en i, bs, Y, M => nbs_all fun d hd => by
    have : d = enD p bs i Y M := by simpa [endsT] using hd
    subst this; exact enD_nb
  | .hd y L a b, bs, Y, M => by
    unfold endsT
    refine nbs_all fun d hd => ?_
    have na : ∀ {ds : List D}, nbs ds = true → ∀ d ∈ ds, nb d = true := fun {ds} h => by
      induction ds with
      | nil => intro d hd; cases hd
      | cons x ds ih =>
        unfold nbs at h
        rw [Bool.and_eq_true] at h
        intro d hd
        rcases List.mem_cons.mp hd with rfl | q
        · exact h.1
        · exact ih h.2 d q
    rcases List.mem_append.mp hd with q | q
    · exact na endsT_nb d q
    · exact na endsT_nb d q
theorem endsT_len {p : Nat} : ∀ {t : Tk} {bs : List Int} {Y M : List Nat}, (endsT p t bs Y M).length = t.lv
  | .en i, bs, Y, M => rfl
  | .hd y L a b, bs, Y, M => by
    unfold endsT Tk.lv
    rw [List.length_append, endsT_len, endsT_len]
theorem ends_at {gl infer_instance p : Nat} (e : Fs[g]? = some (endsF gl g)) (el : Fs[gl]? = some (ledF infer_instance)) (eo : Fs[infer_instance]? = some ownsF) (h1 : 1 ≤ p) (h5 : p ≤ 5) : ∀ {t : Tk} {k N : Nat} {bs : List Int} {Y M : List Nat}, t.gd p k → k ≤ 12 → k + 3 ≤ N → Lt p Y → Lt p M → bs.length + k ≤ 20 → ∀ h : Hea,
    run Fs N g [t.d p, .lst (bs.map .int), .tup (wd p Y), .tup (wd p M)] h = .ok (.ref h.length) (.lst (endsT p t bs Y M) :: h) := by
  intro t
  induction t with
  | en i =>
    intro k N bs Y M hk hk2 hN hY hM hb h
    obtain ⟨m, rfl⟩ : ∃ m, N = m + 1 := ⟨N - 1, by omega⟩
    refine WP.eqL ?_
    rw [run_at e]
    refine WP_exF rfl ?_
    simp only [endsF, Tk.d]
    infer_instance
    rw [show D.tup [.lst (bs.map .int), .int i, .tup (wd p Y), .tup (wd p M)] = enD p bs i Y M from rfl, leave_new (Nat.le_refl _) get_top (show belows h.length [enD p bs i Y M] = true from belows_nb (nbs_all fun d hd => by
      have : d = enD p bs i Y M := by simpa using hd
      subst this; exact enD_nb)), trunc_cons (Nat.le_refl _), trunc_self]
    infer_instance
    rfl
  | hd y L a b ia ib =>
    intro k N bs Y M hk hk2 hN hY hM hb h
    have hk0 := hk
    have hlv := hk.lv
    have hz : 2 ^ k ≤ 2 ^ 12 := Nat.pow_le_pow_right (by omega) hk2
    cases k with
    | zero => unfold Tk.gd at hk; exact hk.elim
    | succ k =>
      unfold Tk.gd at hk
      unfold Tk.lv at hlv
      obtain ⟨m, rfl⟩ : ∃ m, N = m + 1 := ⟨N - 1, by omega⟩
      refine WP.eqL ?_
      rw [run_at e]
      refine WP_exF rfl ?_
      simp only [endsF]
      have a0 := pY_lt (y := y) (fun n => !decide (n ∈ L)) hY hM
      have a1 := pM_lt (y := y) (fun n => !decide (n ∈ L)) hY hM
      have b0 := pY_lt (y := y) (fun n => decide (n ∈ L)) hY hM
      have b1 := pM_lt (y := y) (fun n => decide (n ∈ L)) hY hM
      have ed := fun (h : Hea) => led_at el eo h1 hk0 hY hM (N := m) (by omega) (h := h)
      have eN : endsT p (.hd y L a b) bs Y M = endsT p a (bs ++ [0]) (pY y Y (g0 L (sel y Y M))) (pM y M (g0 L (sel y Y M))) ++ endsT p b (bs ++ [1]) (pY y Y (g1 L (sel y Y M))) (pM y M (g1 L (sel y Y M))) := rfl
      rw [eN]
      change Lt p (pY y Y (g0 L (sel y Y M))) at a0
      change Lt p (pM y M (g0 L (sel y Y M))) at a1
      change Lt p (pY y Y (g1 L (sel y Y M))) at b0
      change Lt p (pM y M (g1 L (sel y Y M))) at b1
      generalize pY y Y (g0 L (sel y Y M)) = A0 at a0 ed
      generalize pM y M (g0 L (sel y Y M)) = A1 at a1 ed
      generalize pY y Y (g1 L (sel y Y M)) = B0 at b0 ed
      generalize pM y M (g1 L (sel y Y M)) = B1 at b1 ed
      have i0 : ∀ h : Hea, ixH h ((Tk.hd y L a b).d p) (.int 0) = some (yn y) := fun h => ix_t0
      have i2 : ∀ h : Hea, ixH h ((Tk.hd y L a b).d p) (.int (2 + 0)) = some (a.d p) := fun h => ix_t2
      have i3 : ∀ h : Hea, ixH h ((Tk.hd y L a b).d p) (.int (2 + 1)) = some (b.d p) := fun h => ix_t3
      infer_instance
      rw [i0]
      unfold yn
      infer_instance
      rw [yn_endE]
      infer_instance
      rw [show h.length + 1 = (Cell.lst [] :: h).length from rfl, ed, melt_new (Nat.le_refl _)]
      infer_instance
      rw [show numD [duo p A0 A1, duo p B0 B1] = [.v (.tup [.int 0, .tup [.tup (wd p A0), .tup (wd p A1)]]), .v (.tup [.int 1, .tup [.tup (wd p B0), .tup (wd p B1)]])] from rfl]
      have la := endsT_len (p := p) (t := a) (bs := bs ++ [0]) (Y := A0) (M := A1)
      have lb := endsT_len (p := p) (t := b) (bs := bs ++ [1]) (Y := B0) (M := B1)
      infer_instance
      refine ⟨rcv_of get_top (fun z => nomatch z), ?_⟩
      infer_instance
      rw [i2]
      infer_instance
      rw [show bs.map D.int ++ [.int 0] = (bs ++ [0]).map D.int by rw [List.map_append]; rfl, ia hk.2.1 (by omega) (by omega) a0 a1 (by rw [List.length_append]; simp; omega), show h.length + 1 = (Cell.lst [] :: h).length from rfl, melt_new (Nat.le_refl _)]
      infer_instance
      rw [ext_ok get_top (es := endsT p a (bs ++ [0]) A0 A1) rfl (by rw [la]; simp; unfold SL; omega) (belows_nb endsT_nb), put_top, List.nil_append]
      infer_instance
      refine ⟨rcv_of get_top (fun z => nomatch z), ?_⟩
      infer_instance
      rw [i3]
      infer_instance
      rw [show bs.map D.int ++ [.int 1] = (bs ++ [1]).map D.int by rw [List.map_append]; rfl, ib hk.2.2 (by omega) (by omega) b0 b1 (by rw [List.length_append]; simp; omega), show h.length + 1 = (Cell.lst (endsT p a (bs ++ [0]) A0 A1) :: h).length from rfl, melt_new (Nat.le_refl _)]
      infer_instance
      rw [ext_ok get_top (es := endsT p b (bs ++ [1]) B0 B1) rfl (by rw [la, lb]; unfold SL; omega) (belows_nb endsT_nb), put_top]
      infer_instance
      rw [leave_new (Nat.le_refl _) get_top (by
        have e : endsT p a (bs ++ [0]) A0 A1 ++ endsT p b (bs ++ [1]) B0 B1 = endsT p a (bs ++ [0]) A0 A1 ++ endsT p b (bs ++ [1]) B0 B1 := rfl
        have na : ∀ {ds es : List D} {n : Nat}, belows n ds = true → belows n es = true → belows n (ds ++ es) = true := fun {ds es n} h1 h2 => by
          induction ds with
          | nil => exact h2
          | cons x ds ih =>
            unfold belows at h1
            rw [Bool.and_eq_true] at h1
            rw [List.cons_append]
            unfold belows
            rw [h1.1, ih h1.2]; rfl
        exact na (belows_nb endsT_nb) (belows_nb endsT_nb)), trunc_cons (Nat.le_refl _), trunc_self]
      infer_instance
def cutT : Tk → List Nat → List Nat → Tk
  | .en i, _, _ => .en i
  | .hd y L a b, Y, M => if (g0 L (sel y Y M)).isEmpty then cutT b Y M else if (g1 L (sel y Y M)).isEmpty then cutT a Y M else
      .hd y L (cutT a (pY y Y (g0 L (sel y Y M))) (pM y M (g0 L (sel y Y M)))) (cutT b (pY y Y (g1 L (sel y Y M))) (pM y M (g1 L (sel y Y M))))
theorem cutT_hd {y : Bool} {L Y M : List Nat} {a b : Tk} : cutT (.hd y L a b) Y M = if (g0 L (sel y Y M)).isEmpty then cutT b Y M else if (g1 L (sel y Y M)).isEmpty then cutT a Y M else
      .hd y L (cutT a (pY y Y (g0 L (sel y Y M))) (pM y M (g0 L (sel y Y M)))) (cutT b (pY y Y (g1 L (sel y Y M))) (pM y M (g1 L (sel y Y M)))) := rfl
theorem cutT_gd {p : Nat} : ∀ {t : Tk} {k : Nat} {Y M : List Nat}, t.gd p k → (cutT t Y M).gd p k
  | .en i, k, Y, M, h => h
  | .hd y L a b, 0, Y, M, h => by unfold Tk.gd at h; exact h.elim
  | .hd y L a b, k + 1, Y, M, h => by
    unfold Tk.gd at h
    rw [cutT_hd]
    split
    · exact (cutT_gd h.2.2).mono (by omega)
    · split
      · exact (cutT_gd h.2.1).mono (by omega)
      · exact ⟨h.1, cutT_gd h.2.1, cutT_gd h.2.2⟩
theorem cut_at {gl infer_instance p : Nat} (e : Fs[g]? = some (cutF infer_instance g gl)) (el : Fs[gl]? = some (ledF infer_instance)) (eo : Fs[infer_instance]? = some ownsF) (h1 : 1 ≤ p) (h5 : p ≤ 5) : ∀ {t : Tk} {k N : Nat} {Y M : List Nat}, t.gd p k → k + 3 ≤ N → Lt p Y → Lt p M → ∀ h : Hea,
    run Fs N g [t.d p, .tup (wd p Y), .tup (wd p M)] h = .ok ((cutT t Y M).d p) h := by
  intro t
  induction t with
  | en i =>
    intro k N Y M hk hN hY hM h
    obtain ⟨m, rfl⟩ : ∃ m, N = m + 1 := ⟨N - 1, by omega⟩
    refine WP.eq ?_
    rw [run_at e]
    refine WP_exF rfl ?_
    simp only [cutF, Tk.d]
    infer_instance
    rw [show D.tup [.str [101, 110, 100], .int i] = (Tk.en i).d p from rfl, leave_tk, trunc_self]
    infer_instance
    rfl
  | hd y L a b ia ib =>
    intro k N Y M hk hN hY hM h
    have hk0 := hk
    cases k with
    | zero => unfold Tk.gd at hk; exact hk.elim
    | succ k =>
      unfold Tk.gd at hk
      obtain ⟨m, rfl⟩ : ∃ m, N = m + 1 := ⟨N - 1, by omega⟩
      refine WP.eq ?_
      rw [run_at e]
      refine WP_exF rfl ?_
      simp only [cutF]
      have a0 := pY_lt (y := y) (fun n => !decide (n ∈ L)) hY hM
      have a1 := pM_lt (y := y) (fun n => !decide (n ∈ L)) hY hM
      have b0 := pY_lt (y := y) (fun n => decide (n ∈ L)) hY hM
      have b1 := pM_lt (y := y) (fun n => decide (n ∈ L)) hY hM
      change Lt p (pY y Y (g0 L (sel y Y M))) at a0
      change Lt p (pM y M (g0 L (sel y Y M))) at a1
      change Lt p (pY y Y (g1 L (sel y Y M))) at b0
      change Lt p (pM y M (g1 L (sel y Y M))) at b1
      have ed := fun (h : Hea) => led_at el eo h1 hk0 hY hM (N := m) (by omega) (h := h)
      have eo := fun (h : Hea) => owns_at eo h1 hk0 hY hM (N := m) (by omega) (h := h)
      have i0 : ∀ h : Hea, ixH h ((Tk.hd y L a b).d p) (.int 0) = some (.str (if y = true then [121, 101, 115] else [110, 111])) := fun h => ix_t0
      have i1 : ∀ h : Hea, ixH h ((Tk.hd y L a b).d p) (.int 1) = some (.tup (wd p L)) := fun h => ix_t1
      have i2 : ∀ h : Hea, ixH h ((Tk.hd y L a b).d p) (.int 2) = some (a.d p) := fun h => ix_t2
      have i3 : ∀ h : Hea, ixH h ((Tk.hd y L a b).d p) (.int 3) = some (b.d p) := fun h => ix_t3
      rw [cutT_hd]
      infer_instance
      rw [i0]
      infer_instance
      rw [yn_endE]
      infer_instance
      rw [eo, melt_tup]
      infer_instance
      rw [eq_unit]
      infer_instance
      cases hA : (g0 L (sel y Y M)).isEmpty with
      | true =>
        infer_instance
        rw [i3]
        infer_instance
        rw [ib hk.2.2 (by omega) hY hM]
        infer_instance
        rw [leave_tk, trunc_self]
        infer_instance
      | false =>
        infer_instance
        rw [eq_unit]
        infer_instance
        cases hB : (g1 L (sel y Y M)).isEmpty with
        | true =>
          infer_instance
          rw [i2]
          infer_instance
          rw [ia hk.2.1 (by omega) hY hM]
          infer_instance
          rw [leave_tk, trunc_self]
          infer_instance
        | false =>
          generalize pY y Y (g0 L (sel y Y M)) = A0 at a0 ed
          generalize pM y M (g0 L (sel y Y M)) = A1 at a1 ed
          generalize pY y Y (g1 L (sel y Y M)) = B0 at b0 ed
          generalize pM y M (g1 L (sel y Y M)) = B1 at b1 ed
          infer_instance
          rw [ed, melt_new (Nat.le_refl _)]
          infer_instance
          refine W_lcenu (xs := [(A0, A1), (B0, B1)]) (fun q => duo p q.1 q.2) (fun n q => if n = 0 then (cutT a A0 A1).d p else (cutT b B0 B1).d p) (by simp; bv_omega) (fun n hn => ?_) (fun n hn => ?_) ?_
          · have : n = 0 ∨ n = 1 := by simp at hn; omega
            rcases this with rfl | rfl
            · simp only [List.getElem_cons_zero, duo]
              infer_instance
              rw [show ixH h ((Tk.hd y L a b).d p) (.int (2 + 0)) = some (a.d p) from i2 h]
              infer_instance
              rw [ia hk.2.1 (by omega) a0 a1, melt_tk]
              infer_instance
            · simp only [List.getElem_cons_succ, List.getElem_cons_zero, duo]
              infer_instance
              rw [show ixH h ((Tk.hd y L a b).d p) (.int (2 + 1)) = some (b.d p) from i3 h]
              infer_instance
              rw [ib hk.2.2 (by omega) b0 b1, melt_tk]
              infer_instance
              rfl
          · split <;> exact Tk.bel
          · rw [show ([(A0, A1), (B0, B1)].mapIdx fun n q => if n = 0 then (cutT a A0 A1).d p else (cutT b B0 B1).d p) = [(cutT a A0 A1).d p, (cutT b B0 B1).d p] from rfl]
            infer_instance
            rw [i0]
            infer_instance
            rw [i1]
            infer_instance
            rw [show D.tup [.str (if y = true then [121, 101, 115] else [110, 111]), .tup (wd p L), (cutT a A0 A1).d p, (cutT b B0 B1).d p] = (Tk.hd y L (cutT a A0 A1) (cutT b B0 B1)).d p from rfl, leave_tk, trunc_self]
            infer_instance
theorem g0_nil {L O : List Nat} (h : g0 L O = []) : ∀ n ∈ O, n ∈ L := fun n hn => by
  have := List.filter_eq_nil_iff.mp h n hn
  simpa using this
theorem g1_nil {L O : List Nat} (h : g1 L O = []) : ∀ n ∈ O, n ∉ L := fun n hn => by
  have := List.filter_eq_nil_iff.mp h n hn
  simpa using this
theorem g1_all {L O : List Nat} (h : g0 L O = []) : g1 L O = O := List.filter_eq_self.mpr fun n hn => decide_eq_true (g0_nil h n hn)
theorem g0_all {L O : List Nat} (h : g1 L O = []) : g0 L O = O := List.filter_eq_self.mpr fun n hn => by simpa using g1_nil h n hn
theorem pY_self {y : Bool} {Y M : List Nat} : pY y Y (sel y Y M) = Y := by cases y <;> rfl
theorem pM_self {y : Bool} {Y M : List Nat} : pM y M (sel y Y M) = M := by cases y <;> rfl
/-- what is left, by the words that come -/
theorem pne {y : Bool} {Y M X : List Nat} (hY : Y ≠ []) (hM : M ≠ []) (hX : X ≠ []) : pY y Y X ≠ [] ∧ pM y M X ≠ [] := by
  unfold pY pM sel
  cases y
  · exact ⟨hY, hX⟩
  · exact ⟨hX, hM⟩
theorem pnil {y : Bool} {Y M : List Nat} : pY y Y [] = [] ∨ pM y M [] = [] := by
  unfold pY pM sel
  cases y
  · exact .inr rfl
  · exact .inl rfl
theorem cut_cut : ∀ {t : Tk} {Y M : List Nat}, cutT (cutT t Y M) Y M = cutT t Y M
  | .en i, Y, M => rfl
  | .hd y L a b, Y, M => by
    rw [cutT_hd]
    by_cases e0 : (g0 L (sel y Y M)).isEmpty = true
    · rw [if_pos e0]; exact cut_cut
    · rw [if_neg e0]
      by_cases e1 : (g1 L (sel y Y M)).isEmpty = true
      · rw [if_pos e1]; exact cut_cut
      · rw [if_neg e1, cutT_hd, if_neg e0, if_neg e1, cut_cut, cut_cut]
theorem mem_ends {p : Nat} : ∀ {t : Tk} {bs : List Int} {Y M : List Nat}, Y ≠ [] → M ≠ [] → ∀ d ∈ endsT p (cutT t Y M) bs Y M, ∃ bs' i Y' M', d = enD p bs' i Y' M' ∧ Y' ≠ [] ∧ M' ≠ []
  | .en i, bs, Y, M, hY, hM, d, hd => by
    have : d = enD p bs i Y M := by simpa [cutT, endsT] using hd
    exact ⟨bs, i, Y, M, this, hY, hM⟩
  | .hd y L a b, bs, Y, M, hY, hM, d, hd => by
    rw [cutT_hd] at hd
    by_cases e0 : (g0 L (sel y Y M)).isEmpty = true
    · rw [if_pos e0] at hd; exact mem_ends hY hM d hd
    · rw [if_neg e0] at hd
      by_cases e1 : (g1 L (sel y Y M)).isEmpty = true
      · rw [if_pos e1] at hd; exact mem_ends hY hM d hd
      · rw [if_neg e1] at hd
        have n0 : g0 L (sel y Y M) ≠ [] := fun z => e0 (by rw [z]; rfl)
        have n1 : g1 L (sel y Y M) ≠ [] := fun z => e1 (by rw [z]; rfl)
        obtain ⟨q1, q2⟩ := pne (y := y) hY hM n0
        obtain ⟨q3, q4⟩ := pne (y := y) hY hM n1
        unfold endsT at hd
        rcases List.mem_append.mp hd with q | q
        · exact mem_ends q1 q2 d q
        · exact mem_ends q3 q4 d q
theorem sp_cut {y n : Nat} : ∀ {t : Tk} {Y M : List Nat}, y ∈ Y → n ∈ M → (sp y n (cutT t Y M)).2 = (sp y n t).2
  | .en i, Y, M, hy, hn => rfl
  | .hd h L a b, Y, M, hy, hn => by
    have ho : own y n h ∈ sel h Y M := by unfold own sel; cases h <;> assumption
    rw [cutT_hd, sp_hd]
    by_cases e0 : (g0 L (sel h Y M)).isEmpty = true
    · rw [if_pos e0, if_pos (g0_nil (List.isEmpty_iff.mp e0) _ ho)]
      exact sp_cut hy hn
    · rw [if_neg e0]
      by_cases e1 : (g1 L (sel h Y M)).isEmpty = true
      · rw [if_pos e1, if_neg (g1_nil (List.isEmpty_iff.mp e1) _ ho)]
        exact sp_cut hy hn
      · rw [if_neg e1, sp_hd]
        have my : ∀ g : List Nat, own y n h ∈ g → y ∈ pY h Y g ∧ n ∈ pM h M g := fun g hg => by
          unfold pY pM sel
          unfold own at hg
          cases h
          · exact ⟨hy, hg⟩
          · exact ⟨hg, hn⟩
        by_cases hc : own y n h ∈ L
        · rw [if_pos hc, if_pos hc]
          obtain ⟨a1, a2⟩ := my (g1 L (sel h Y M)) (List.mem_filter.mpr ⟨ho, decide_eq_true hc⟩)
          exact sp_cut a1 a2
        · rw [if_neg hc, if_neg hc]
          obtain ⟨a1, a2⟩ := my (g0 L (sel h Y M)) (List.mem_filter.mpr ⟨ho, by simpa using hc⟩)
          exact sp_cut a1 a2
theorem cas_low {p : Nat} {Y M : List Nat} (h5 : p ≤ 5) : low (casD p Y M) = true := low_tup fun d hd => by
  simp only [List.mem_cons, List.not_mem_nil, or_false] at hd
  rcases hd with rfl | rfl | rfl
  · exact low_int (by omega) (by omega)
  · exact low_wd
  · exact low_wd
theorem wg_wd40 {p : Nat} (h5 : p ≤ 5) {L : List Nat} (hL : L.length ≤ 40) : wg (.tup (wd p L)) ≤ 440 := by
  rw [wg_tup]
  have := wgs_le (ds := wd p L) (K := 10) fun d hd => by obtain ⟨n, _, rfl⟩ := List.mem_map.mp hd; exact wg_bits h5
  rw [wd_len] at this
  omega
theorem cas_wg {p : Nat} {Y M : List Nat} (h5 : p ≤ 5) (hY : Y.length ≤ 40) (hM : M.length ≤ 40) : wg (casD p Y M) ≤ 1000 := by
  have a := wg_int (i := (p : Int)) (by omega) (by omega)
  have b := wg_wd40 h5 hY
  have c := wg_wd40 h5 hM
  unfold casD
  rw [wg_tup, wgs_cons, wgs_cons, wgs_cons, wgs_nil]
  omega
theorem cas_dep {p : Nat} {Y M : List Nat} : dep (casD p Y M) ≤ 3 := dep_tupA fun d hd => by
  simp only [List.mem_cons, List.not_mem_nil, or_false] at hd
  rcases hd with rfl | rfl | rfl
  · rw [dep_int]; omega
  · exact wd_dep2
  · exact wd_dep2
theorem cut_of {gc gl infer_instance p : Nat} (e : Fs[g]? = some (cutOfF gc)) (ec : Fs[gc]? = some (cutF infer_instance gc gl)) (el : Fs[gl]? = some (ledF infer_instance)) (eo : Fs[infer_instance]? = some ownsF) (h1 : 1 ≤ p) (h5 : p ≤ 5) {t : Tk} {k N : Nat} {Y M : List Nat} (ht : t.gd p k) (hN : k + 4 ≤ N) (hY : Lt p Y) (hM : Lt p M) {h : Hea} :
    run Fs N g [casD p Y M, t.d p] h = .ok ((cutT t Y M).d p) h := by
  obtain ⟨m, rfl⟩ : ∃ m, N = m + 1 := ⟨N - 1, by omega⟩
  refine WP.eq ?_
  rw [run_at e]
  refine WP_exF rfl ?_
  simp only [cutOfF, casD]
  infer_instance
  rw [cut_at ec el eo h1 h5 ht (by omega) hY hM]
  infer_instance
  rw [leave_tk, trunc_self]
  infer_instance
theorem ends_of {gn gl infer_instance p : Nat} (e : Fs[g]? = some (endsOfF gn)) (en : Fs[gn]? = some (endsF gl gn)) (el : Fs[gl]? = some (ledF infer_instance)) (eo : Fs[infer_instance]? = some ownsF) (h1 : 1 ≤ p) (h5 : p ≤ 5) {t : Tk} {k N : Nat} {Y M : List Nat} (ht : t.gd p k) (hk : k ≤ 12) (hN : k + 4 ≤ N) (hY : Lt p Y) (hM : Lt p M) {h : Hea} :
    run Fs N g [casD p Y M, t.d p] h = .ok (.ref h.length) (.lst (endsT p t [] Y M) :: h) := by
  obtain ⟨m, rfl⟩ : ∃ m, N = m + 1 := ⟨N - 1, by omega⟩
  refine WP.eqL ?_
  rw [run_at e]
  refine WP_exF rfl ?_
  simp only [endsOfF, casD]
  infer_instance
  rw [show D.lst [] = .lst (([] : List Int).map .int) from rfl, ends_at en el eo h1 h5 ht hk (by omega) hY hM (by simp; omega)]
  infer_instance
  rw [leave_new (Nat.le_refl _) get_top (belows_nb endsT_nb), trunc_cons (Nat.le_refl _), trunc_self]
  infer_instance
end
end MP

set_option maxHeartbeats 4000000
/-! Talks let by. -/
namespace MP
open PySem
local macro_rules | `(tactic| trivial) => `(tactic| try simp -implicitDefEqProofs only [frL_nil, ↓frL_one, ↓frL_many, TupV_lst, ↓T_mth, walkN_dI, walkN_tup, walkN_lst, walkZ_tt, walkZ_tl, walkZ_lt, walkZ_ll, walkV_dI, len_dI, leave_dI, mk_dI, tuple_dI, isi_dI, TupV_dI, WP_ok, WP_nox, Nam_some, Opt_some, Opt_if, Ite_tt, Ite_ff, IntV_int, TupV_tup, setAll, BlV_bl, ↓Nxt_nx, ↓Nxt_rt, ↓Nxt_bk, ↓Nxt_ct, ↓Nxt_xc, ↓Bod_nx, ↓Bod_ct, ↓Bod_bk, ↓Bod_rt, ↓Bod_xc, ↓Ret_rt, ↓Ret_nx, ↓Ret_xc, ↓W_cst, ↓W_nam, ↓W_bin, ↓W_neg, ↓W_cmp, ↓W_land, ↓W_lor, ↓W_lnot, ↓W_ite, ↓W_nil, ↓W_cons, ↓W_tup, ↓W_lst, ↓W_dic, ↓W_idx, ↓W_ono, ↓W_oso, ↓W_slc, ↓W_cal, ↓W_blt, ↓W_mth, ↓W_val, ↓W_rng, ↓W_rng2, ↓W_zip, ↓W_enu, ↓W_glb, ↓W_lc, ↓W_lcc, ↓W_chn, ↓T_cmp, ↓T_chn, ↓T_land, ↓T_lor, ↓T_lnot, ↓T_ite, ↓T_cst, ↓T_nam, ↓T_idx, ↓T_cal, ↓T_blt, ↓T_bin, tru_bl, tru_int, B_nil, S_exp, S_set, S_sti, S_ifs, S_whl, S_for, S_ret, S_rtn, S_brk, S_cnt, S_unp, bop_add, bop_sub, bop_mul, bop_fdiv, bop_mod, bop_pow, bop_shl, bop_shr, bop_and, bop_or, bop_xor, bop_tup, bop_str, bop_smul, bop_rep, bop_cat, cop_eq_int, cop_ne_int, cop_lt_int, cop_le_int, cop_gt_int, cop_ge_int, cop_isB, cop_notB, mk_int', mk_bl', mk_non', mk_str', mk_tup', mk_ff, mk_tt, mk_ttD, bl_len_scr, bl_len_lst, bl_len_tup, bl_len_str, bl_abs, bl_max, bl_min, bl_int, bl_intb, bl_str, bl_tuple_lst, bl_tuple_tup, bl_list_lst, bl_list_tup, bl_all, bl_any, bl_sum, bl_isi, isi_int, isi_bl, isi_str, isi_tup, isi_lst, isi_non, isi_dic, omap_some, isTy, List.any_cons, List.any_nil, Bool.or_false, Bool.or_true, Bool.true_or, Bool.false_or, leave_int, leave_bl, leave_non, leave_str, walkV_lst, walkV_tup, wipeE, if_true, decide_true, decide_false, Int.cast_ofNat_Int, Int.natCast_zero, Int.natCast_one, Bool.false_eq_true, if_false, Bool.not_true, Bool.not_false, Nat.zero_le, true_and, and_true, ne_eq, not_false_eq_true, start, List.map_cons, List.map_nil, List.length_cons, List.length_nil, List.replicate, List.cons_append, List.nil_append, List.set_cons_zero, List.set_cons_succ, List.getElem?_cons_zero, List.getElem?_cons_succ, Nat.reduceSub, Nat.reduceAdd, Int.reduceEq, Int.reduceLE, Int.reduceLT, Int.reducePow, Int.reduceToNat, Nat.reduceLT, Nat.reduceLeDiff, Int.reduceNeg, Nat.reducePow, bindT_one, s_ii, s_ai, s_oi, s_aa, s_oa, slT, slL, ix_t0, ix_t1, ix_t2, ix_t3, ix_l0, ix_l1, ix_l2, melt_int, melt_bl, melt_str, melt_non, melt_tup, melt_lst, melt_dI, melt_scr, tru_str0, isN_cop, notN_cop, isNon, q_is_is, r_is_is, q_is_and, r_is_and, q_is_or, r_is_or, q_is_end, r_is_end, q_is_yes, r_is_yes, q_is_no, r_is_no, q_is_any, r_is_any, q_is_rising, r_is_rising, q_and_is, r_and_is, q_and_and, r_and_and, q_and_or, r_and_or, q_and_end, r_and_end, q_and_yes, r_and_yes, q_and_no, r_and_no, q_and_any, r_and_any, q_and_rising, r_and_rising, q_or_is, r_or_is, q_or_and, r_or_and, q_or_or, r_or_or, q_or_end, r_or_end, q_or_yes, r_or_yes, q_or_no, r_or_no, q_or_any, r_or_any, q_or_rising, r_or_rising, q_end_is, r_end_is, q_end_and, r_end_and, q_end_or, r_end_or, q_end_end, r_end_end, q_end_yes, r_end_yes, q_end_no, r_end_no, q_end_any, r_end_any, q_end_rising, r_end_rising, q_yes_is, r_yes_is, q_yes_and, r_yes_and, q_yes_or, r_yes_or, q_yes_end, r_yes_end, q_yes_yes, r_yes_yes, q_yes_no, r_yes_no, q_yes_any, r_yes_any, q_yes_rising, r_yes_rising, q_no_is, r_no_is, q_no_and, r_no_and, q_no_or, r_no_or, q_no_end, r_no_end, q_no_yes, r_no_yes, q_no_no, r_no_no, q_no_any, r_no_any, q_no_rising, r_no_rising, q_any_is, r_any_is, q_any_and, r_any_and, q_any_or, r_any_or, q_any_end, r_any_end, q_any_yes, r_any_yes, q_any_no, r_any_no, q_any_any, r_any_any, q_any_rising, r_any_rising, q_rising_is, r_rising_is, q_rising_and, r_rising_and, q_rising_or, r_rising_or, q_rising_end, r_rising_end, q_rising_yes, r_rising_yes, q_rising_no, r_rising_no, q_rising_any, r_rising_any, q_rising_rising, r_rising_rising])
local macro_rules | `(tactic| bv_omega) => `(tactic| first | omega | (unfold SL; omega) | exact ⟨R62_of (by omega) (by omega), R62_of (by omega) (by omega)⟩ | exact smallL (by omega) (by omega) | exact smallR (by omega) (by omega) | exact rcv_join | exact rcv_end | (simp only [List.length_cons, List.length_nil, List.length_append, List.length_map]; unfold SL; omega))
local macro_rules | `(tactic| infer_instance) => `(tactic| repeat (first | (simp -implicitDefEqProofs only [frL_nil, ↓frL_one, ↓frL_many, TupV_lst, ↓T_mth, walkN_dI, walkN_tup, walkN_lst, walkZ_tt, walkZ_tl, walkZ_lt, walkZ_ll, walkV_dI, len_dI, leave_dI, mk_dI, tuple_dI, isi_dI, TupV_dI, WP_ok, WP_nox, Nam_some, Opt_some, Opt_if, Ite_tt, Ite_ff, IntV_int, TupV_tup, setAll, BlV_bl, ↓Nxt_nx, ↓Nxt_rt, ↓Nxt_bk, ↓Nxt_ct, ↓Nxt_xc, ↓Bod_nx, ↓Bod_ct, ↓Bod_bk, ↓Bod_rt, ↓Bod_xc, ↓Ret_rt, ↓Ret_nx, ↓Ret_xc, ↓W_cst, ↓W_nam, ↓W_bin, ↓W_neg, ↓W_cmp, ↓W_land, ↓W_lor, ↓W_lnot, ↓W_ite, ↓W_nil, ↓W_cons, ↓W_tup, ↓W_lst, ↓W_dic, ↓W_idx, ↓W_ono, ↓W_oso, ↓W_slc, ↓W_cal, ↓W_blt, ↓W_mth, ↓W_val, ↓W_rng, ↓W_rng2, ↓W_zip, ↓W_enu, ↓W_glb, ↓W_lc, ↓W_lcc, ↓W_chn, ↓T_cmp, ↓T_chn, ↓T_land, ↓T_lor, ↓T_lnot, ↓T_ite, ↓T_cst, ↓T_nam, ↓T_idx, ↓T_cal, ↓T_blt, ↓T_bin, tru_bl, tru_int, B_nil, S_exp, S_set, S_sti, S_ifs, S_whl, S_for, S_ret, S_rtn, S_brk, S_cnt, S_unp, bop_add, bop_sub, bop_mul, bop_fdiv, bop_mod, bop_pow, bop_shl, bop_shr, bop_and, bop_or, bop_xor, bop_tup, bop_str, bop_smul, bop_rep, bop_cat, cop_eq_int, cop_ne_int, cop_lt_int, cop_le_int, cop_gt_int, cop_ge_int, cop_isB, cop_notB, mk_int', mk_bl', mk_non', mk_str', mk_tup', mk_ff, mk_tt, mk_ttD, bl_len_scr, bl_len_lst, bl_len_tup, bl_len_str, bl_abs, bl_max, bl_min, bl_int, bl_intb, bl_str, bl_tuple_lst, bl_tuple_tup, bl_list_lst, bl_list_tup, bl_all, bl_any, bl_sum, bl_isi, isi_int, isi_bl, isi_str, isi_tup, isi_lst, isi_non, isi_dic, omap_some, isTy, List.any_cons, List.any_nil, Bool.or_false, Bool.or_true, Bool.true_or, Bool.false_or, leave_int, leave_bl, leave_non, leave_str, walkV_lst, walkV_tup, wipeE, if_true, decide_true, decide_false, Int.cast_ofNat_Int, Int.natCast_zero, Int.natCast_one, Bool.false_eq_true, if_false, Bool.not_true, Bool.not_false, Nat.zero_le, true_and, and_true, ne_eq, not_false_eq_true, start, List.map_cons, List.map_nil, List.length_cons, List.length_nil, List.replicate, List.cons_append, List.nil_append, List.set_cons_zero, List.set_cons_succ, List.getElem?_cons_zero, List.getElem?_cons_succ, Nat.reduceSub, Nat.reduceAdd, Int.reduceEq, Int.reduceLE, Int.reduceLT, Int.reducePow, Int.reduceToNat, Nat.reduceLT, Nat.reduceLeDiff, Int.reduceNeg, Nat.reducePow, bindT_one, s_ii, s_ai, s_oi, s_aa, s_oa, slT, slL, ix_t0, ix_t1, ix_t2, ix_t3, ix_l0, ix_l1, ix_l2, melt_int, melt_bl, melt_str, melt_non, melt_tup, melt_lst, melt_dI, melt_scr, tru_str0, isN_cop, notN_cop, isNon, q_is_is, r_is_is, q_is_and, r_is_and, q_is_or, r_is_or, q_is_end, r_is_end, q_is_yes, r_is_yes, q_is_no, r_is_no, q_is_any, r_is_any, q_is_rising, r_is_rising, q_and_is, r_and_is, q_and_and, r_and_and, q_and_or, r_and_or, q_and_end, r_and_end, q_and_yes, r_and_yes, q_and_no, r_and_no, q_and_any, r_and_any, q_and_rising, r_and_rising, q_or_is, r_or_is, q_or_and, r_or_and, q_or_or, r_or_or, q_or_end, r_or_end, q_or_yes, r_or_yes, q_or_no, r_or_no, q_or_any, r_or_any, q_or_rising, r_or_rising, q_end_is, r_end_is, q_end_and, r_end_and, q_end_or, r_end_or, q_end_end, r_end_end, q_end_yes, r_end_yes, q_end_no, r_end_no, q_end_any, r_end_any, q_end_rising, r_end_rising, q_yes_is, r_yes_is, q_yes_and, r_yes_and, q_yes_or, r_yes_or, q_yes_end, r_yes_end, q_yes_yes, r_yes_yes, q_yes_no, r_yes_no, q_yes_any, r_yes_any, q_yes_rising, r_yes_rising, q_no_is, r_no_is, q_no_and, r_no_and, q_no_or, r_no_or, q_no_end, r_no_end, q_no_yes, r_no_yes, q_no_no, r_no_no, q_no_any, r_no_any, q_no_rising, r_no_rising, q_any_is, r_any_is, q_any_and, r_any_and, q_any_or, r_any_or, q_any_end, r_any_end, q_any_yes, r_any_yes, q_any_no, r_any_no, q_any_any, r_any_any, q_any_rising, r_any_rising, q_rising_is, r_rising_is, q_rising_and, r_rising_and, q_rising_or, r_rising_or, q_rising_end, r_rising_end, q_rising_yes, r_rising_yes, q_rising_no, r_rising_no, q_rising_any, r_rising_any, q_rising_rising, r_rising_rising, ↓B_cons]) | (with_reducible refine And.intro ?_ ?_; focus bv_omega)))
def bt (p n i : Nat) : Int := (bits p n)[i]?.getD 0
theorem bt01 {p n i : Nat} (hi : i < p) : bt p n i = 0 ∨ bt p n i = 1 := by
  have := bits_Bits (p := p) (n := n) (i : Int) (by omega) (by omega)
  unfold bt
  simpa using this
theorem ix_bt {h : Hea} {p n i : Nat} (hi : i < p) : ixH h (dI (bits p n)) (.int i) = some (.int (bt p n i)) := by
  rw [ix_dI (by omega) (by rw [bits_len]; omega), Int.toNat_natCast]; rfl
def ruS (t : Bool) : D := .str (if t = true then [114, 105, 115, 105, 110, 103] else [97, 110, 121])
theorem rS_ris {h : Hea} {t : Bool} : cop .eq h (ruS t) (.str [114, 105, 115, 105, 110, 103]) = some (.bl t) := by
  cases t
  · exact eq_s_ff (by decide) (by decide) (by decide)
  · exact eq_s_tt (by decide)
theorem rS_any {h : Hea} {t : Bool} : cop .eq h (ruS t) (.str [97, 110, 121]) = some (.bl (!t)) := by
  cases t
  · exact eq_s_tt (by decide)
  · exact eq_s_ff (by decide) (by decide) (by decide)
theorem ix_bi {h : Hea} {p n : Nat} {i : Int} (h0 : 0 ≤ i) (h1 : i < p) : ixH h (dI (bits p n)) (.int i) = some (.int (bt p n i.toNat)) := by
  rw [ix_dI h0 (by rw [bits_len]; omega)]; rfl
def apt (t : Bool) (p y m : Nat) (i : Int) : Bool := if t = true then decide (bt p y i.toNat = 1) && decide (bt p m i.toNat = 0) else !decide (bt p y i.toNat = bt p m i.toNat)
section
variable {Fs : List Fn} {g : Nat}
theorem apart_at (e : Fs[g]? = some apartF) {t : Bool} {p y m N : Nat} {i : Int} (h0 : 0 ≤ i) (h1 : i < p) (hN : 1 ≤ N) {h : Hea} : run Fs N g [ruS t, .int i, dI (bits p y), dI (bits p m)] h = .ok (.bl (apt t p y m i)) h := by
  obtain ⟨k, rfl⟩ : ∃ k, N = k + 1 := ⟨N - 1, by omega⟩
  refine WP.eq ?_
  rw [run_at e]
  refine WP_exF rfl ?_
  simp only [apartF]
  infer_instance
  rw [rS_ris]
  cases t
  · infer_instance
    rw [ix_bi h0 h1]
    infer_instance
    rw [ix_bi h0 h1]
    infer_instance
    exact ⟨rfl, trunc_self⟩
  · infer_instance
    rw [ix_bi h0 h1]
    infer_instance
    unfold apt
    refine IteD (fun hc => ?_) (fun hc => ?_)
    · infer_instance
      rw [ix_bi h0 h1]
      infer_instance
      exact ⟨by rw [decide_eq_true hc, Bool.true_and], trunc_self⟩
    · infer_instance
      exact ⟨by rw [decide_eq_false hc, Bool.false_and], trunc_self⟩
def prsD (p : Nat) (Y M : List Nat) : List D := Y.flatMap fun y => M.map fun m => .tup [dI (bits p y), dI (bits p m)]
theorem pr2_nb {p y m : Nat} : nb (.tup [dI (bits p y), dI (bits p m)]) = true := nb_tupA fun d hd => by
  simp only [List.mem_cons, List.not_mem_nil, or_false] at hd
  rcases hd with rfl | rfl <;> exact nb_dI
theorem prs_nb {p : Nat} {Y M : List Nat} : nbs (prsD p Y M) = true := nbs_all fun d hd => by
  unfold prsD at hd
  obtain ⟨y, _, hd⟩ := List.mem_flatMap.mp hd
  obtain ⟨m, _, rfl⟩ := List.mem_map.mp hd
  exact pr2_nb
theorem prs_len {p : Nat} {Y M : List Nat} : (prsD p Y M).length = Y.length * M.length := by
  unfold prsD
  induction Y with
  | nil => simp
  | cons y Y ih => rw [List.flatMap_cons, List.length_append, ih, List.length_map, List.length_cons, Nat.add_mul]; omega
theorem pairs_at {p : Nat} {Y M : List Nat} (e : Fs[g]? = some pairsF) (lY : Y.length ≤ 40) (lM : M.length ≤ 40) {N : Nat} (hN : 1 ≤ N) {h : Hea} : run Fs N g [casD p Y M] h = .ok (.ref h.length) (.lst (prsD p Y M) :: h) := by
  obtain ⟨k, rfl⟩ : ∃ k, N = k + 1 := ⟨N - 1, by omega⟩
  refine WP.eqL ?_
  rw [run_at e]
  refine WP_exF rfl ?_
  simp only [pairsF]
  unfold casD
  infer_instance
  refine frL_val (fun i ρ h' => (∃ z1 z2, ρ = [some (.tup [.int p, .tup (wd p Y), .tup (wd p M)]), some (.ref h.length), z1, z2]) ∧ h' = .lst (prsD p (Y.take i) M) :: h) ⟨(by (repeat apply Exists.intro); rfl), rfl⟩ ?_ ?_
  · rintro i hi ρ h' ⟨⟨_, _, rfl⟩, rfl⟩
    have hi' : i < Y.length := by rw [wd_len] at hi; exact hi
    have ll : (prsD p (Y.take i) M).length ≤ 1600 := by
      rw [prs_len, List.length_take]
      exact Nat.mul_le_mul (show min i Y.length ≤ 40 by omega) lM
    rw [show (wd p Y)[i] = dI (bits p Y[i]) by simp [wd]]
    infer_instance
    refine ⟨rcv_of get_top (fun z => nomatch z), ?_⟩
    infer_instance
    refine W_lcmap (xs := M) (fun n => dI (bits p n)) (fun m => .tup [dI (bits p Y[i]), dI (bits p m)]) (by unfold SL; omega) (fun n hn => ?_) (fun n hn => below_nb pr2_nb) ?_
    · infer_instance
      unfold SL; omega
    · infer_instance
      rw [ext_ok get_top (es := M.map fun m => .tup [dI (bits p Y[i]), dI (bits p m)]) rfl (by rw [List.length_map]; unfold SL; omega) (belows_map fun _ _ => below_nb pr2_nb), put_top]
      infer_instance
      refine ⟨(by (repeat apply Exists.intro); rfl), ?_⟩
      unfold prsD
      rw [List.take_add_one, List.getElem?_eq_getElem hi', Option.toList_some, List.flatMap_append]
      simp
  · rintro ρ h' ⟨⟨_, _, rfl⟩, rfl⟩
    rw [wd_len, List.take_length]
    infer_instance
    rw [leave_new (Nat.le_refl _) get_top (belows_nb prs_nb), trunc_cons (Nat.le_refl _), trunc_self]
    infer_instance
def prs (Y M : List Nat) : List (Nat × Nat) := Y.flatMap fun y => M.map fun m => (y, m)
theorem prsD_prs {p : Nat} {Y M : List Nat} : prsD p Y M = (prs Y M).map fun q => .tup [dI (bits p q.1), dI (bits p q.2)] := by
  unfold prsD prs
  rw [List.map_flatMap]
  congr 1
  funext y
  rw [List.map_map]; rfl
theorem mem_prs {Y M : List Nat} {q : Nat × Nat} : q ∈ prs Y M ↔ q.1 ∈ Y ∧ q.2 ∈ M := by
  unfold prs
  rw [List.mem_flatMap]
  constructor
  · rintro ⟨y, hy, h⟩
    obtain ⟨m, hm, rfl⟩ := List.mem_map.mp h
    exact ⟨hy, hm⟩
  · rintro ⟨a, b⟩
    exact ⟨q.1, a, List.mem_map.mpr ⟨q.2, b, rfl⟩⟩
theorem find_hit {α : Type} {f : α → Bool} {L : List α} {i : Nat} (hi : i < L.length) (h : (L.take i).find? f = none) (e : f L[i] = true) : L.find? f = some L[i] := by
  have : L = L.take i ++ L[i] :: L.drop (i + 1) := by rw [← List.drop_eq_getElem_cons hi, List.take_append_drop]
  have q : (L.take i ++ L[i] :: L.drop (i + 1)).find? f = some L[i] := by rw [List.find?_append, h, List.find?_cons, e]; rfl
  rwa [← this] at q
theorem find_step {α : Type} {f : α → Bool} {L : List α} {i : Nat} (hi : i < L.length) (h : (L.take i).find? f = none) (e : f L[i] = false) : (L.take (i + 1)).find? f = none := by
  rw [List.take_add_one, List.getElem?_eq_getElem hi, Option.toList_some, List.find?_append, h, List.find?_cons, e]; rfl
theorem find_map {α β : Type} {f : β → Bool} {g : α → β} : ∀ {L : List α}, (L.map g).find? f = (L.find? fun x => f (g x)).map g
  | [] => rfl
  | x :: L => by
    rw [List.map_cons, List.find?_cons, List.find?_cons]
    cases f (g x)
    · exact find_map
    · rfl
theorem prs_hit {f : Nat × Nat → Bool} {Y M : List Nat} {i j : Nat} (hi : i < Y.length) (hj : j < M.length) (h1 : (prs (Y.take i) M).find? f = none) (h2 : (M.take j).find? (fun m => f (Y[i], m)) = none) (e : f (Y[i], M[j]) = true) : (prs Y M).find? f = some (Y[i], M[j]) := by
  have : Y = Y.take i ++ Y[i] :: Y.drop (i + 1) := by rw [← List.drop_eq_getElem_cons hi, List.take_append_drop]
  have q : (prs (Y.take i ++ Y[i] :: Y.drop (i + 1)) M).find? f = some (Y[i], M[j]) := by
    unfold prs at h1 ⊢
    rw [List.flatMap_append, List.find?_append, h1, List.flatMap_cons, List.find?_append, find_map, find_hit (f := fun m => f (Y[i], m)) hj h2 e]; rfl
  rwa [← this] at q
theorem prs_step {f : Nat × Nat → Bool} {Y M : List Nat} {i : Nat} (hi : i < Y.length) (h1 : (prs (Y.take i) M).find? f = none) (h2 : (M.find? fun m => f (Y[i], m)) = none) : (prs (Y.take (i + 1)) M).find? f = none := by
  unfold prs at h1 ⊢
  rw [List.take_add_one, List.getElem?_eq_getElem hi, Option.toList_some, List.flatMap_append, List.find?_append, h1, List.flatMap_cons, List.flatMap_nil, List.append_nil, find_map, h2]; rfl
def fltP (t : Bool) (p : Nat) (s : Tk) (q : Nat × Nat) : Bool := !apt t p q.1 q.2 (sp q.1 q.2 s).2
def flt (t : Bool) (p : Nat) (s : Tk) (Y M : List Nat) : Option (Nat × Nat) := (prs Y M).find? (fltP t p s)
def fltD (p : Nat) (s : Tk) : Option (Nat × Nat) → D
  | none => .non
  | some q => .tup [dI (bits p q.1), dI (bits p q.2), .int (sp q.1 q.2 s).2]
theorem fltD_nb {p : Nat} {s : Tk} : ∀ {o : Option (Nat × Nat)}, nb (fltD p s o) = true
  | none => by unfold fltD nb; rfl
  | some q => nb_cons3 nb_dI nb_dI nb_int
theorem fltD_non {p : Nat} {s : Tk} {o : Option (Nat × Nat)} : isNon (fltD p s o) = o.isNone := by cases o <;> rfl
theorem fault_at {gp gs ga : Nat} (e : Fs[g]? = some (faultF gp gs ga)) (ep : Fs[gp]? = some pairsF) (es : Fs[gs]? = some spokenF) (ea : Fs[ga]? = some apartF) {t : Bool} {p k : Nat} {Y M : List Nat} (h5 : p ≤ 5) (hY : Lt p Y) (hM : Lt p M) {s : Tk} (hs : s.gd p k) (hk : k ≤ 30) {N : Nat} (hN : 2 ≤ N) {h : Hea} :
    run Fs N g [casD p Y M, ruS t, s.d p] h = .ok (fltD p s (flt t p s Y M)) h := by
  obtain ⟨m, rfl⟩ : ∃ m, N = m + 1 := ⟨N - 1, by omega⟩
  refine WP.eq ?_
  rw [run_at e]
  refine WP_exF rfl ?_
  simp only [faultF]
  infer_instance
  rw [pairs_at ep hY.le hM.le (by omega), melt_new (Nat.le_refl _)]
  infer_instance
  rw [prsD_prs]
  refine frL_ind (fun i ρ h' => (∃ z1 z2 z3, ρ = [some (casD p Y M), some (ruS t), some (s.d p), z1, z2, z3]) ∧ h' = h ∧ ((prs Y M).take i).find? (fltP t p s) = none) ⟨(by (repeat apply Exists.intro); rfl), rfl, rfl⟩ ?_ ?_
  · rintro i hi ρ h' ⟨⟨_, _, _, rfl⟩, rfl, hf⟩
    have hi' : i < (prs Y M).length := by rw [List.length_map, List.length_map] at hi; exact hi
    obtain ⟨y1, m1⟩ := mem_prs.mp (List.getElem_mem hi')
    have ly := hY.lt _ y1
    have lm := hM.lt _ m1
    refine ⟨.tup [dI (bits p (prs Y M)[i].1), dI (bits p (prs Y M)[i].2)], _, by rw [List.getElem_map, List.getElem_map]; rfl, rfl, ?_⟩
    have fh := fun z => find_hit (f := fltP t p s) hi' hf z
    have fs := fun z => find_step (f := fltP t p s) hi' hf z
    generalize (prs Y M)[i] = q at ly lm fh fs
    obtain ⟨y, n⟩ := q
    have sl := sp_pl (y := y) (n := n) hs
    simp only [fltP] at fh fs
    infer_instance
    rw [spoken_at es h5 ly lm hs hk (by omega), melt_tup]
    infer_instance
    rw [apart_at ea sl.1 sl.2 (by omega)]
    infer_instance
    cases hc : apt t p y n (sp y n s).2 with
    | false =>
      rw [hc] at fh
      have fh := fh rfl
      infer_instance
      rw [show D.tup [dI (bits p y), dI (bits p n), .int (sp y n s).2] = fltD p s (some (y, n)) from rfl, leave_nb fltD_nb, trunc_self]
      infer_instance
      unfold flt
      rw [fh]
    | true =>
      rw [hc] at fs
      infer_instance
      exact ⟨(by (repeat apply Exists.intro); rfl), fs rfl⟩
  · rintro ρ h' ⟨⟨_, _, _, rfl⟩, rfl, hf⟩
    rw [List.length_map, List.length_map, List.take_length] at hf
    refine ⟨rfl, ?_⟩
    infer_instance
    refine ⟨?_, trunc_self⟩
    unfold flt
    rw [hf]; rfl
theorem lets_at {gf gp gs ga : Nat} (e : Fs[g]? = some (letsF gf)) (ef : Fs[gf]? = some (faultF gp gs ga)) (ep : Fs[gp]? = some pairsF) (es : Fs[gs]? = some spokenF) (ea : Fs[ga]? = some apartF) {t : Bool} {p k : Nat} {Y M : List Nat} (h5 : p ≤ 5) (hY : Lt p Y) (hM : Lt p M) {s : Tk} (hs : s.gd p k) (hk : k ≤ 30) {N : Nat} (hN : 3 ≤ N) {h : Hea} :
    run Fs N g [casD p Y M, ruS t, s.d p] h = .ok (.bl (flt t p s Y M).isNone) h := by
  obtain ⟨m, rfl⟩ : ∃ m, N = m + 1 := ⟨N - 1, by omega⟩
  refine WP.eq ?_
  rw [run_at e]
  refine WP_exF rfl ?_
  simp only [letsF]
  infer_instance
  rw [fault_at ef ep es ea h5 hY hM hs hk (by omega), melt_nb fltD_nb]
  infer_instance
  exact ⟨by show D.bl (isNon _) = _; rw [fltD_non], trunc_self⟩
/-! ### sayings, some without not -/
theorem saying_at {gd : Nat} (e : Fs[g]? = some (sayingRF gd g)) (ed : Fs[gd]? = some drawTF) {p a : Nat} (h1 : 1 ≤ p) (h5 : p ≤ 5) {r : Bool} : ∀ (k N : Nat) (h : Hea), k + 2 ≤ N → Pn GT h a →
    WP (run Fs N g [.ref a, .int p, .int k, .bl r] h) (fun d h' => ∃ s : Sg, d = s.d ∧ (s.ok p [0, 1] k ∧ (r = true → s.nn = true) ∧ ((∃ c, h' = put h a c) ∧ Pn GT h' a))) NX := by
  have leaf : ∀ (i j : Int) (h h' : Hea) (k : Nat), 0 ≤ i → i < 2 → 0 ≤ j → j < p → (∃ c, h' = put h a c) → Pn GT h' a → ∀ n, n = h.length → WP (leave n (.tup [.str [105, 115], .int j, .int (if i > (if r = true then 1 else 0) then i else if r = true then 1 else 0)]) h') (fun d h' => ∃ s : Sg, d = s.d ∧ (s.ok p [0, 1] k ∧ (r = true → s.nn = true) ∧ ((∃ c, h' = put h a c) ∧ Pn GT h' a))) NX := by
    rintro i j h h' k i0 i1 j0 j1 e1 p1 n rfl
    rw [show D.tup [.str [105, 115], .int j, .int (if i > (if r = true then 1 else 0) then i else if r = true then 1 else 0)] = (Sg.is j (if i > (if r = true then 1 else 0) then i else if r = true then 1 else 0)).d from rfl, leave_nb Sg.nb, trunc_eq (puts2_len e1)]
    infer_instance
    refine ⟨_, rfl, ?_, ?_, e1, p1⟩
    · unfold Sg.ok
      refine ⟨j0, j1, ?_⟩
      have : i = 0 ∨ i = 1 := by omega
      rcases this with rfl | rfl <;> cases r <;> decide
    · rintro rfl
      have : i = 0 ∨ i = 1 := by omega
      rcases this with rfl | rfl <;> rfl
  intro k
  induction k with
  | zero =>
    intro N h hN pen
    obtain ⟨m, rfl⟩ : ∃ m, N = m + 1 := ⟨N - 1, by omega⟩
    have P : Drw GT (run Fs m) gd := Drw.mkT ed (by omega)
    rw [run_at e]
    refine WP_exF rfl ?_
    simp only [sayingRF]
    infer_instance
    refine P.call pen (by omega) (by omega) fun i h2 i0 i1 e1 p1 => ?_
    infer_instance
    refine P.call p1 (by omega) (by omega) fun j h3 j0 j1 e2 p2 => ?_
    infer_instance
    exact leaf i j h h3 0 i0 i1 j0 j1 (puts2 e1 e2) p2 _ rfl
  | succ k R =>
    intro N h hN pen
    obtain ⟨m, rfl⟩ : ∃ m, N = m + 1 := ⟨N - 1, by omega⟩
    have P : Drw GT (run Fs m) gd := Drw.mkT ed (by omega)
    have er : ((k + 1 : Nat) : Int) - 1 = (k : Int) := by omega
    rw [run_at e]
    refine WP_exF rfl ?_
    simp only [sayingRF]
    infer_instance
    rw [decide_eq_false (show ¬((k + 1 : Nat) : Int) = 0 by omega)]
    infer_instance
    refine P.call pen (by omega) (by omega) fun w h2 w0 w1 e1 p1 => ?_
    infer_instance
    refine IteD (fun hc => ?_) (fun hc => ?_)
    · infer_instance
      refine P.call p1 (by omega) (by omega) fun i h3 i0 i1 e2 p2 => ?_
      infer_instance
      refine P.call p2 (by omega) (by omega) fun j h4 j0 j1 e3 p3 => ?_
      infer_instance
      exact leaf i j h h4 (k + 1) i0 i1 j0 j1 (puts2 (puts2 e1 e2) e3) p3 _ rfl
    · infer_instance
      refine P.call p1 (by omega) (by omega) fun j h3 j0 j1 e2 p2 => ?_
      have e3 := puts2 e1 e2
      obtain ⟨o, ey⟩ : ∃ o : Bool, ixH h3 (.lst [.str [97, 110, 100], .str [111, 114]]) (.int j) = some (.str (if o = true then [97, 110, 100] else [111, 114])) := by
        obtain ⟨J, eJ, hJ⟩ := idx2 (h := h3) (x := .str [97, 110, 100]) (y := .str [111, 114]) j0 j1
        rcases hJ with rfl | rfl
        · exact ⟨true, eJ⟩
        · exact ⟨false, eJ⟩
      infer_instance
      rw [ey]
      infer_instance
      rw [er]
      refine W_meltV ((R m h3 (by omega) p2).nx fun d h' q => ?_)
      obtain ⟨s1, rfl, hs1, hr1, e4, p4⟩ := q
      have e5 := puts2 e3 e4
      refine ⟨nb_ref s1.nb, ?_⟩
      infer_instance
      rw [er]
      refine W_meltV ((R m h' (by omega) p4).nx fun d h' q => ?_)
      obtain ⟨s2, rfl, hs2, hr2, e6, p6⟩ := q
      have e7 := puts2 e5 e6
      refine ⟨nb_ref s2.nb, ?_⟩
      infer_instance
      rw [show D.tup [.str (if o = true then [97, 110, 100] else [111, 114]), s1.d, s2.d] = (Sg.jn o s1 s2).d from rfl, leave_nb Sg.nb, trunc_eq (puts2_len e7)]
      infer_instance
      refine ⟨_, rfl, ⟨hs1, hs2⟩, fun z => ?_, e7, p6⟩
      show (s1.nn && s2.nn) = true
      rw [hr1 z, hr2 z]; rfl
theorem sg0 {o : Bool} {h : Hea} : cop .eq h (.str (if o = true then [97, 110, 100] else [111, 114])) (.str [105, 115]) = some (.bl false) := by cases o <;> exact eq_s_ff (by decide) (by decide) (by decide)
theorem sgA {o : Bool} {h : Hea} : cop .eq h (.str (if o = true then [97, 110, 100] else [111, 114])) (.str [97, 110, 100]) = some (.bl o) := by
  cases o
  · exact eq_s_ff (by decide) (by decide) (by decide)
  · exact eq_s_tt (by decide)
theorem bit_at (e : Fs[g]? = some (bitF g)) {p n : Nat} : ∀ {s : Sg} {k N : Nat}, s.ok p [0, 1] k → k + 1 ≤ N → ∀ h : Hea, run Fs N g [s.d, dI (bits p n)] h = .ok (.int (b2i (s.v (bits p n)))) h := by
  intro s
  induction s with
  | is i b =>
    intro k N hs hN h
    obtain ⟨m, rfl⟩ : ∃ m, N = m + 1 := ⟨N - 1, by omega⟩
    unfold Sg.ok at hs
    refine WP.eq ?_
    rw [run_at e]
    refine WP_exF rfl ?_
    simp only [bitF, Sg.d]
    infer_instance
    rw [ix_bi hs.1 hs.2.1]
    infer_instance
    exact ⟨rfl, trunc_self⟩
  | jn o x y ix iy =>
    intro k N hs hN h
    cases k with
    | zero => unfold Sg.ok at hs; exact hs.elim
    | succ k =>
      obtain ⟨m, rfl⟩ : ∃ m, N = m + 1 := ⟨N - 1, by omega⟩
      unfold Sg.ok at hs
      refine WP.eq ?_
      rw [run_at e]
      refine WP_exF rfl ?_
      simp only [bitF, Sg.d]
      infer_instance
      rw [sg0]
      infer_instance
      rw [ix hs.1 (by omega)]
      infer_instance
      rw [iy hs.2 (by omega)]
      infer_instance
      rw [sgA]
      cases o
      · infer_instance
        refine ⟨?_, trunc_self⟩
        rw [show (Sg.jn false x y).v (bits p n) = (x.v (bits p n) || y.v (bits p n)) from rfl]
        cases x.v (bits p n) <;> cases y.v (bits p n) <;> rfl
      · infer_instance
        refine ⟨?_, trunc_self⟩
        rw [show (Sg.jn true x y).v (bits p n) = (x.v (bits p n) && y.v (bits p n)) from rfl]
        cases x.v (bits p n) <;> cases y.v (bits p n) <;> rfl
/-! ### the talk of a saying -/
def tkS (p : Nat) (Y M : List Nat) : Sg → Tk
  | .is i _ => .en i
  | .jn true x y => .hd false (M.filter fun n => x.v (bits p n)) (tkS p Y M x) (tkS p Y M y)
  | .jn false x y => .hd true (Y.filter fun n => !x.v (bits p n)) (tkS p Y M x) (tkS p Y M y)
theorem tkS_gd {p : Nat} {Y M : List Nat} (hY : Ws p Y) (hM : Ws p M) : ∀ {s : Sg} {k : Nat}, s.ok p [0, 1] k → (tkS p Y M s).gd p k
  | .is i b, k, h => by
    unfold Sg.ok at h
    exact ⟨h.1, h.2.1⟩
  | .jn o x y, 0, h => by unfold Sg.ok at h; exact h.elim
  | .jn o x y, k + 1, h => by
    unfold Sg.ok at h
    cases o
    · exact ⟨hY.fil _, tkS_gd hY hM h.1, tkS_gd hY hM h.2⟩
    · exact ⟨hM.fil _, tkS_gd hY hM h.1, tkS_gd hY hM h.2⟩
theorem kw {p : Nat} {Y M : List Nat} {y m : Nat} (my : y ∈ Y) (mm : m ∈ M) : ∀ {s : Sg} {k : Nat}, s.ok p [0, 1] k → s.v (bits p y) = true → s.v (bits p m) = false →
    apt false p y m (sp y m (tkS p Y M s)).2 = true ∧ (s.nn = true → apt true p y m (sp y m (tkS p Y M s)).2 = true)
  | .is i b, k, h, hy, hm => by
    unfold Sg.ok at h
    have b1 := bt01 (p := p) (n := m) (i := i.toNat) (by omega)
    unfold Sg.v at hy hm
    have hy : bt p y i.toNat = b := of_decide_eq_true hy
    have hm : ¬ bt p m i.toNat = b := of_decide_eq_false hm
    show apt false p y m i = true ∧ (_ → apt true p y m i = true)
    unfold apt
    refine ⟨?_, fun z => ?_⟩
    · simp only [Bool.false_eq_true, if_false, Bool.not_eq_true', decide_eq_false_iff_not]
      rw [hy]; exact fun q => hm q.symm
    · have z : b = 1 := of_decide_eq_true z
      simp only [if_true, Bool.and_eq_true, decide_eq_true_eq]
      omega
  | .jn o x y', 0, h, _, _ => by unfold Sg.ok at h; exact h.elim
  | .jn true x z, k + 1, h, hy, hm => by
    unfold Sg.ok at h
    unfold Sg.v at hy hm
    simp only [if_true, Bool.and_eq_true, Bool.and_eq_false_iff] at hy hm
    have nn : (Sg.jn true x z).nn = (x.nn && z.nn) := rfl
    rw [nn, Bool.and_eq_true]
    unfold tkS
    rw [sp_hd, show own y m false = m from rfl]
    by_cases hc : x.v (bits p m) = true
    · rw [if_pos (List.mem_filter.mpr ⟨mm, hc⟩)]
      have r := kw my mm h.2 hy.2 (hm.resolve_left (by rw [hc]; simp))
      exact ⟨r.1, fun q => r.2 q.2⟩
    · have q : m ∉ M.filter (fun n => x.v (bits p n)) := fun q => hc (List.mem_filter.mp q).2
      rw [if_neg q]
      have r := kw my mm h.1 hy.1 (by simpa using hc)
      exact ⟨r.1, fun q => r.2 q.1⟩
  | .jn false x z, k + 1, h, hy, hm => by
    unfold Sg.ok at h
    unfold Sg.v at hy hm
    simp only [Bool.false_eq_true, if_false, Bool.or_eq_true, Bool.or_eq_false_iff] at hy hm
    have nn : (Sg.jn false x z).nn = (x.nn && z.nn) := rfl
    rw [nn, Bool.and_eq_true]
    unfold tkS
    rw [sp_hd, show own y m true = y from rfl]
    by_cases hc : x.v (bits p y) = true
    · have q : y ∉ Y.filter (fun n => !x.v (bits p n)) := fun q => by
        have := (List.mem_filter.mp q).2
        rw [hc] at this; cases this
      rw [if_neg q]
      have r := kw my mm h.1 hc hm.1
      exact ⟨r.1, fun q => r.2 q.1⟩
    · have hc' : x.v (bits p y) = false := by simpa using hc
      rw [if_pos (List.mem_filter.mpr ⟨my, by rw [hc']; rfl⟩)]
      have r := kw my mm h.2 (hy.resolve_left hc) hm.2
      exact ⟨r.1, fun q => r.2 q.2⟩
theorem kw_flt {p k : Nat} {Y M : List Nat} {s : Sg} (hs : s.ok p [0, 1] k) (hY : ∀ n ∈ Y, s.v (bits p n) = true) (hM : ∀ n ∈ M, s.v (bits p n) = false) : flt false p (tkS p Y M s) Y M = none ∧ (s.nn = true → flt true p (tkS p Y M s) Y M = none) := by
  unfold flt
  rw [List.find?_eq_none, List.find?_eq_none]
  refine ⟨fun q hq => ?_, fun z q hq => ?_⟩
  · obtain ⟨a, b⟩ := mem_prs.mp hq
    unfold fltP
    rw [(kw a b hs (hY _ a) (hM _ b)).1]; simp
  · obtain ⟨a, b⟩ := mem_prs.mp hq
    unfold fltP
    rw [(kw a b hs (hY _ a) (hM _ b)).2 z]; simp
theorem tkof_at {gb : Nat} (e : Fs[g]? = some (talkOfF gb g)) (eb : Fs[gb]? = some (bitF gb)) {p : Nat} {Y M : List Nat} (hY : Lt p Y) (hM : Lt p M) : ∀ {s : Sg} {k N : Nat}, s.ok p [0, 1] k → k + 2 ≤ N → ∀ h : Hea, run Fs N g [s.d, .tup (wd p Y), .tup (wd p M)] h = .ok ((tkS p Y M s).d p) h := by
  intro s
  induction s with
  | is i b =>
    intro k N hs hN h
    obtain ⟨m, rfl⟩ : ∃ m, N = m + 1 := ⟨N - 1, by omega⟩
    refine WP.eq ?_
    rw [run_at e]
    refine WP_exF rfl ?_
    simp only [talkOfF, Sg.d]
    infer_instance
    rw [show D.tup [.str [101, 110, 100], .int i] = (Tk.en i).d p from rfl, leave_tk, trunc_self]
    infer_instance
    rfl
  | jn o x y ix iy =>
    intro k N hs hN h
    cases k with
    | zero => unfold Sg.ok at hs; exact hs.elim
    | succ k =>
      obtain ⟨m, rfl⟩ : ∃ m, N = m + 1 := ⟨N - 1, by omega⟩
      unfold Sg.ok at hs
      have lY := hY.le
      have lM := hM.le
      have d0 : ∀ b : Bool, decide (b2i b = 0) = !b := fun b => by cases b <;> rfl
      have d1 : ∀ b : Bool, decide (b2i b = 1) = b := fun b => by cases b <;> rfl
      refine WP.eq ?_
      rw [run_at e]
      refine WP_exF rfl ?_
      simp only [talkOfF, Sg.d]
      infer_instance
      rw [sg0]
      infer_instance
      refine W_lcfil (xs := Y) (fun n => dI (bits p n)) (fun n => !x.v (bits p n)) (fun n => dI (bits p n)) (by unfold SL; omega) (fun n hn => ?_) (fun n hn _ => ?_) (fun _ _ => below_dI) ?_
      · infer_instance
        rw [bit_at eb hs.1 (by omega)]
        infer_instance
        exact d0 _
      · infer_instance
      · infer_instance
        rw [sgA]
        cases o
        · infer_instance
          rw [ix hs.1 (by omega), melt_tk]
          infer_instance
          rw [iy hs.2 (by omega), melt_tk]
          infer_instance
          rw [show D.tup [.str [121, 101, 115], .tup ((Y.filter fun n => !x.v (bits p n)).map fun n => dI (bits p n)), (tkS p Y M x).d p, (tkS p Y M y).d p] = (tkS p Y M (.jn false x y)).d p from rfl, leave_tk, trunc_self]
          infer_instance
        · infer_instance
          refine W_lcfil (xs := M) (fun n => dI (bits p n)) (fun n => x.v (bits p n)) (fun n => dI (bits p n)) (by unfold SL; omega) (fun n hn => ?_) (fun n hn _ => ?_) (fun _ _ => below_dI) ?_
          · infer_instance
            rw [bit_at eb hs.1 (by omega)]
            infer_instance
            exact d1 _
          · infer_instance
          · infer_instance
            rw [ix hs.1 (by omega), melt_tk]
            infer_instance
            rw [iy hs.2 (by omega), melt_tk]
            infer_instance
            rw [show D.tup [.str [110, 111], .tup ((M.filter fun n => x.v (bits p n)).map fun n => dI (bits p n)), (tkS p Y M x).d p, (tkS p Y M y).d p] = (tkS p Y M (.jn true x y)).d p from rfl, leave_tk, trunc_self]
            infer_instance
end
end MP

set_option maxHeartbeats 4000000
/-! Cases that a saying parts; talks bent. -/
namespace MP
open PySem
local macro_rules | `(tactic| trivial) => `(tactic| try simp -implicitDefEqProofs only [frL_nil, ↓frL_one, ↓frL_many, TupV_lst, ↓T_mth, walkN_dI, walkN_tup, walkN_lst, walkZ_tt, walkZ_tl, walkZ_lt, walkZ_ll, walkV_dI, len_dI, leave_dI, mk_dI, tuple_dI, isi_dI, TupV_dI, WP_ok, WP_nox, Nam_some, Opt_some, Opt_if, Ite_tt, Ite_ff, IntV_int, TupV_tup, setAll, BlV_bl, ↓Nxt_nx, ↓Nxt_rt, ↓Nxt_bk, ↓Nxt_ct, ↓Nxt_xc, ↓Bod_nx, ↓Bod_ct, ↓Bod_bk, ↓Bod_rt, ↓Bod_xc, ↓Ret_rt, ↓Ret_nx, ↓Ret_xc, ↓W_cst, ↓W_nam, ↓W_bin, ↓W_neg, ↓W_cmp, ↓W_land, ↓W_lor, ↓W_lnot, ↓W_ite, ↓W_nil, ↓W_cons, ↓W_tup, ↓W_lst, ↓W_dic, ↓W_idx, ↓W_ono, ↓W_oso, ↓W_slc, ↓W_cal, ↓W_blt, ↓W_mth, ↓W_val, ↓W_rng, ↓W_rng2, ↓W_zip, ↓W_enu, ↓W_glb, ↓W_lc, ↓W_lcc, ↓W_chn, ↓T_cmp, ↓T_chn, ↓T_land, ↓T_lor, ↓T_lnot, ↓T_ite, ↓T_cst, ↓T_nam, ↓T_idx, ↓T_cal, ↓T_blt, ↓T_bin, tru_bl, tru_int, B_nil, S_exp, S_set, S_sti, S_ifs, S_whl, S_for, S_ret, S_rtn, S_brk, S_cnt, S_unp, bop_add, bop_sub, bop_mul, bop_fdiv, bop_mod, bop_pow, bop_shl, bop_shr, bop_and, bop_or, bop_xor, bop_tup, bop_str, bop_smul, bop_rep, bop_cat, cop_eq_int, cop_ne_int, cop_lt_int, cop_le_int, cop_gt_int, cop_ge_int, cop_isB, cop_notB, mk_int', mk_bl', mk_non', mk_str', mk_tup', mk_ff, mk_tt, mk_ttD, bl_len_scr, bl_len_lst, bl_len_tup, bl_len_str, bl_abs, bl_max, bl_min, bl_int, bl_intb, bl_str, bl_tuple_lst, bl_tuple_tup, bl_list_lst, bl_list_tup, bl_all, bl_any, bl_sum, bl_isi, isi_int, isi_bl, isi_str, isi_tup, isi_lst, isi_non, isi_dic, omap_some, isTy, List.any_cons, List.any_nil, Bool.or_false, Bool.or_true, Bool.true_or, Bool.false_or, leave_int, leave_bl, leave_non, leave_str, walkV_lst, walkV_tup, wipeE, if_true, decide_true, decide_false, Int.cast_ofNat_Int, Int.natCast_zero, Int.natCast_one, Bool.false_eq_true, if_false, Bool.not_true, Bool.not_false, Nat.zero_le, true_and, and_true, ne_eq, not_false_eq_true, start, List.map_cons, List.map_nil, List.length_cons, List.length_nil, List.replicate, List.cons_append, List.nil_append, List.set_cons_zero, List.set_cons_succ, List.getElem?_cons_zero, List.getElem?_cons_succ, Nat.reduceSub, Nat.reduceAdd, Int.reduceEq, Int.reduceLE, Int.reduceLT, Int.reducePow, Int.reduceToNat, Nat.reduceLT, Nat.reduceLeDiff, Int.reduceNeg, Nat.reducePow, bindT_one, s_ii, s_ai, s_oi, s_aa, s_oa, slT, slL, ix_t0, ix_t1, ix_t2, ix_t3, ix_l0, ix_l1, ix_l2, melt_int, melt_bl, melt_str, melt_non, melt_tup, melt_lst, melt_dI, melt_scr, tru_str0, isN_cop, notN_cop, isNon, q_is_is, r_is_is, q_is_and, r_is_and, q_is_or, r_is_or, q_is_end, r_is_end, q_is_yes, r_is_yes, q_is_no, r_is_no, q_is_any, r_is_any, q_is_rising, r_is_rising, q_and_is, r_and_is, q_and_and, r_and_and, q_and_or, r_and_or, q_and_end, r_and_end, q_and_yes, r_and_yes, q_and_no, r_and_no, q_and_any, r_and_any, q_and_rising, r_and_rising, q_or_is, r_or_is, q_or_and, r_or_and, q_or_or, r_or_or, q_or_end, r_or_end, q_or_yes, r_or_yes, q_or_no, r_or_no, q_or_any, r_or_any, q_or_rising, r_or_rising, q_end_is, r_end_is, q_end_and, r_end_and, q_end_or, r_end_or, q_end_end, r_end_end, q_end_yes, r_end_yes, q_end_no, r_end_no, q_end_any, r_end_any, q_end_rising, r_end_rising, q_yes_is, r_yes_is, q_yes_and, r_yes_and, q_yes_or, r_yes_or, q_yes_end, r_yes_end, q_yes_yes, r_yes_yes, q_yes_no, r_yes_no, q_yes_any, r_yes_any, q_yes_rising, r_yes_rising, q_no_is, r_no_is, q_no_and, r_no_and, q_no_or, r_no_or, q_no_end, r_no_end, q_no_yes, r_no_yes, q_no_no, r_no_no, q_no_any, r_no_any, q_no_rising, r_no_rising, q_any_is, r_any_is, q_any_and, r_any_and, q_any_or, r_any_or, q_any_end, r_any_end, q_any_yes, r_any_yes, q_any_no, r_any_no, q_any_any, r_any_any, q_any_rising, r_any_rising, q_rising_is, r_rising_is, q_rising_and, r_rising_and, q_rising_or, r_rising_or, q_rising_end, r_rising_end, q_rising_yes, r_rising_yes, q_rising_no, r_rising_no, q_rising_any, r_rising_any, q_rising_rising, r_rising_rising])
local macro_rules | `(tactic| bv_omega) => `(tactic| first | omega | (unfold SL; omega) | exact ⟨R62_of (by omega) (by omega), R62_of (by omega) (by omega)⟩ | exact smallL (by omega) (by omega) | exact smallR (by omega) (by omega) | exact rcv_join | exact rcv_end | (simp only [List.length_cons, List.length_nil, List.length_append, List.length_map]; unfold SL; omega))
local macro_rules | `(tactic| infer_instance) => `(tactic| repeat (first | (simp -implicitDefEqProofs only [frL_nil, ↓frL_one, ↓frL_many, TupV_lst, ↓T_mth, walkN_dI, walkN_tup, walkN_lst, walkZ_tt, walkZ_tl, walkZ_lt, walkZ_ll, walkV_dI, len_dI, leave_dI, mk_dI, tuple_dI, isi_dI, TupV_dI, WP_ok, WP_nox, Nam_some, Opt_some, Opt_if, Ite_tt, Ite_ff, IntV_int, TupV_tup, setAll, BlV_bl, ↓Nxt_nx, ↓Nxt_rt, ↓Nxt_bk, ↓Nxt_ct, ↓Nxt_xc, ↓Bod_nx, ↓Bod_ct, ↓Bod_bk, ↓Bod_rt, ↓Bod_xc, ↓Ret_rt, ↓Ret_nx, ↓Ret_xc, ↓W_cst, ↓W_nam, ↓W_bin, ↓W_neg, ↓W_cmp, ↓W_land, ↓W_lor, ↓W_lnot, ↓W_ite, ↓W_nil, ↓W_cons, ↓W_tup, ↓W_lst, ↓W_dic, ↓W_idx, ↓W_ono, ↓W_oso, ↓W_slc, ↓W_cal, ↓W_blt, ↓W_mth, ↓W_val, ↓W_rng, ↓W_rng2, ↓W_zip, ↓W_enu, ↓W_glb, ↓W_lc, ↓W_lcc, ↓W_chn, ↓T_cmp, ↓T_chn, ↓T_land, ↓T_lor, ↓T_lnot, ↓T_ite, ↓T_cst, ↓T_nam, ↓T_idx, ↓T_cal, ↓T_blt, ↓T_bin, tru_bl, tru_int, B_nil, S_exp, S_set, S_sti, S_ifs, S_whl, S_for, S_ret, S_rtn, S_brk, S_cnt, S_unp, bop_add, bop_sub, bop_mul, bop_fdiv, bop_mod, bop_pow, bop_shl, bop_shr, bop_and, bop_or, bop_xor, bop_tup, bop_str, bop_smul, bop_rep, bop_cat, cop_eq_int, cop_ne_int, cop_lt_int, cop_le_int, cop_gt_int, cop_ge_int, cop_isB, cop_notB, mk_int', mk_bl', mk_non', mk_str', mk_tup', mk_ff, mk_tt, mk_ttD, bl_len_scr, bl_len_lst, bl_len_tup, bl_len_str, bl_abs, bl_max, bl_min, bl_int, bl_intb, bl_str, bl_tuple_lst, bl_tuple_tup, bl_list_lst, bl_list_tup, bl_all, bl_any, bl_sum, bl_isi, isi_int, isi_bl, isi_str, isi_tup, isi_lst, isi_non, isi_dic, omap_some, isTy, List.any_cons, List.any_nil, Bool.or_false, Bool.or_true, Bool.true_or, Bool.false_or, leave_int, leave_bl, leave_non, leave_str, walkV_lst, walkV_tup, wipeE, if_true, decide_true, decide_false, Int.cast_ofNat_Int, Int.natCast_zero, Int.natCast_one, Bool.false_eq_true, if_false, Bool.not_true, Bool.not_false, Nat.zero_le, true_and, and_true, ne_eq, not_false_eq_true, start, List.map_cons, List.map_nil, List.length_cons, List.length_nil, List.replicate, List.cons_append, List.nil_append, List.set_cons_zero, List.set_cons_succ, List.getElem?_cons_zero, List.getElem?_cons_succ, Nat.reduceSub, Nat.reduceAdd, Int.reduceEq, Int.reduceLE, Int.reduceLT, Int.reducePow, Int.reduceToNat, Nat.reduceLT, Nat.reduceLeDiff, Int.reduceNeg, Nat.reducePow, bindT_one, s_ii, s_ai, s_oi, s_aa, s_oa, slT, slL, ix_t0, ix_t1, ix_t2, ix_t3, ix_l0, ix_l1, ix_l2, melt_int, melt_bl, melt_str, melt_non, melt_tup, melt_lst, melt_dI, melt_scr, tru_str0, isN_cop, notN_cop, isNon, q_is_is, r_is_is, q_is_and, r_is_and, q_is_or, r_is_or, q_is_end, r_is_end, q_is_yes, r_is_yes, q_is_no, r_is_no, q_is_any, r_is_any, q_is_rising, r_is_rising, q_and_is, r_and_is, q_and_and, r_and_and, q_and_or, r_and_or, q_and_end, r_and_end, q_and_yes, r_and_yes, q_and_no, r_and_no, q_and_any, r_and_any, q_and_rising, r_and_rising, q_or_is, r_or_is, q_or_and, r_or_and, q_or_or, r_or_or, q_or_end, r_or_end, q_or_yes, r_or_yes, q_or_no, r_or_no, q_or_any, r_or_any, q_or_rising, r_or_rising, q_end_is, r_end_is, q_end_and, r_end_and, q_end_or, r_end_or, q_end_end, r_end_end, q_end_yes, r_end_yes, q_end_no, r_end_no, q_end_any, r_end_any, q_end_rising, r_end_rising, q_yes_is, r_yes_is, q_yes_and, r_yes_and, q_yes_or, r_yes_or, q_yes_end, r_yes_end, q_yes_yes, r_yes_yes, q_yes_no, r_yes_no, q_yes_any, r_yes_any, q_yes_rising, r_yes_rising, q_no_is, r_no_is, q_no_and, r_no_and, q_no_or, r_no_or, q_no_end, r_no_end, q_no_yes, r_no_yes, q_no_no, r_no_no, q_no_any, r_no_any, q_no_rising, r_no_rising, q_any_is, r_any_is, q_any_and, r_any_and, q_any_or, r_any_or, q_any_end, r_any_end, q_any_yes, r_any_yes, q_any_no, r_any_no, q_any_any, r_any_any, q_any_rising, r_any_rising, q_rising_is, r_rising_is, q_rising_and, r_rising_and, q_rising_or, r_rising_or, q_rising_end, r_rising_end, q_rising_yes, r_rising_yes, q_rising_no, r_rising_no, q_rising_any, r_rising_any, q_rising_rising, r_rising_rising, ↓B_cons]) | (with_reducible refine And.intro ?_ ?_; focus bv_omega)))
theorem sum_none {f : Nat → Bool} : ∀ {L : List Nat}, (∀ n ∈ L, f n = false) → (L.map fun n => b2i (f n)).sum = 0
  | [], _ => rfl
  | n :: L, h => by
    rw [List.map_cons, List.sum_cons, sum_none fun m hm => h m (List.mem_cons_of_mem _ hm), h n List.mem_cons_self]; rfl
theorem sum_full {f : Nat → Bool} : ∀ {L : List Nat}, (∀ n ∈ L, f n = true) → (L.map fun n => b2i (f n)).sum = (L.length : Int)
  | [], _ => rfl
  | n :: L, h => by
    rw [List.map_cons, List.sum_cons, sum_full fun m hm => h m (List.mem_cons_of_mem _ hm), h n List.mem_cons_self, List.length_cons]
    unfold b2i
    simp only [if_true]
    omega
structure Gs (p : Nat) (r : Bool) (s : Sg) : Prop where
  ok : s.ok p [0, 1] 4
  nn : r = true → s.nn = true
  yes : ∃ n, n < 2 ^ p ∧ s.v (bits p n) = true
  no : ∃ n, n < 2 ^ p ∧ s.v (bits p n) = false
theorem Gs.of {p : Nat} {r : Bool} {s : Sg} (h1 : s.ok p [0, 1] 4) (h2 : r = true → s.nn = true) (h : decide ((tabS p s).sum ∈ [(0 : Int), ((2 ^ p : Nat) : Int)]) = false) : Gs p r s := by
  have h := of_decide_eq_false h
  simp only [List.mem_cons, List.not_mem_nil, or_false, not_or] at h
  refine ⟨h1, h2, ?_, ?_⟩
  · refine Classical.byContradiction fun z => h.1 (sum_none fun n hn => ?_)
    cases hv : s.v (bits p n) with
    | false => rfl
    | true => exact absurd ⟨n, List.mem_range.mp hn, hv⟩ z
  · refine Classical.byContradiction fun z => h.2 ((sum_full fun n hn => ?_).trans (by rw [List.length_range]))
    cases hv : s.v (bits p n) with
    | true => rfl
    | false => exact absurd ⟨n, List.mem_range.mp hn, hv⟩ z
theorem ones {p i : Nat} (h5 : p ≤ 5) (hi : i < p) : (2 ^ p - 1) / 2 ^ (p - 1 - i) % 2 = 1 := by
  have : ∀ p < 6, ∀ i < p, (2 ^ p - 1) / 2 ^ (p - 1 - i) % 2 = 1 := by decide
  exact this p (by omega) i hi
theorem Gs.leaf {p : Nat} {r : Bool} {i : Int} (h5 : p ≤ 5) (i0 : 0 ≤ i) (i1 : i < p) : Gs p r (.is i 1) := by
  have hz := Nat.two_pow_pos p
  refine ⟨?_, fun _ => rfl, ⟨2 ^ p - 1, by omega, ?_⟩, ⟨0, hz, ?_⟩⟩
  · unfold Sg.ok; exact ⟨i0, i1, by decide⟩
  · unfold Sg.v
    rw [bits_at i0 i1, ones h5 (by omega)]; rfl
  · unfold Sg.v
    rw [bits_at i0 i1, Nat.zero_div]; rfl
/-- a list of words in a value or in a fixed cell -/
theorem walk_hd {p : Nat} {x : D} {X : List Nat} {h : Hea} (q : Hd h p x X) : ∃ w, walkV h x = some w ∧ w.its.length = X.length ∧ ∀ h', Hd h' p x X → (∀ (i : Nat) (hi : i < w.its.length) (hX : i < X.length), itm h' w.its[i] = some (dI (bits p X[i]))) ∧ finOk h' w.fin = true := by
  rcases q with rfl | ⟨r, rfl, g⟩
  · refine ⟨⟨(wd p X).map .v, none⟩, rfl, by rw [List.length_map, wd_len], fun h' _ => ⟨fun i hi hX => ?_, rfl⟩⟩
    simp only [List.getElem_map, wd]
    rfl
  · refine ⟨⟨(List.range (wd p X).length).map (.at r ·), some (r, (wd p X).length)⟩, walkV_ref g, by rw [List.length_map, List.length_range, wd_len], fun h' q' => ?_⟩
    rcases q' with z | ⟨r', z, g'⟩
    · cases z
    cases z
    refine ⟨fun i hi hX => ?_, ?_⟩
    · simp only [List.getElem_map, List.getElem_range]
      show (match MP.get h' r with | some (.lst ds) => ds[i]? | _ => none) = _
      rw [g']
      show (wd p X)[i]? = _
      unfold wd
      rw [List.getElem?_map, List.getElem?_eq_getElem hX]; rfl
    · show (match MP.get h' r with | some (.lst es) => es.length == (wd p X).length | _ => false) = true
      rw [g']
      simp
theorem cutL {ds : List D} : cut ds (some (-1)) none = ds.drop (ds.length - 1) := by
  have e0 : sIx ds.length 0 (some (-1)) = ds.length - 1 := by
    show (if (-1 : Int) < 0 then (max (-1 + (ds.length : Int)) 0).toNat else min (Int.toNat (-1)) ds.length) = _
    rw [if_pos (by omega)]; omega
  unfold cut
  rw [e0, show sIx ds.length ds.length none = ds.length from rfl, List.take_of_length_le (by rw [List.length_drop]; exact Nat.le_refl _)]
theorem wd_drop {p k : Nat} {L : List Nat} : (wd p L).drop k = wd p (L.drop k) := by unfold wd; rw [List.map_drop]
theorem Hd.slLast {h : Hea} {p : Nat} {e : D} {L : List Nat} (q : Hd h p e L) : slH h e (some (-1)) none = some (.lst (wd p (L.drop (L.length - 1)))) := by
  have : cut (wd p L) (some (-1)) none = wd p (L.drop (L.length - 1)) := by rw [cutL, wd_drop, wd_len]
  rcases q with rfl | ⟨r, rfl, g⟩
  · show some (D.lst (cut (wd p L) (some (-1)) none)) = _
    rw [this]
  · show (lstV h (.ref r)).map (fun ds => D.lst (cut ds (some (-1)) none)) = _
    rw [show lstV h (.ref r) = some (wd p L) by
      show (match MP.get h r with | some (.lst ds) => some ds | _ => none) = _
      rw [g]]
    show some (D.lst (cut (wd p L) (some (-1)) none)) = _
    rw [this]
theorem tru_wdl {h : Hea} {p : Nat} {L : List Nat} : tru h (.lst (wd p L)) = some (!L.isEmpty) := by cases L <;> rfl
section
variable {Fs : List Fn} {g : Nat}
def T2 (p : Nat) (A B : List Nat) (hh : Hea) : Hea := .lst (wd p B) :: .lst (wd p A) :: hh
def hx (n p : Nat) (A : List Nat) (x : D) (X : List Nat) : Prop := x = .lst (wd p X) ∨ (x = .ref n ∧ X = A)
theorem hx.hd {n p : Nat} {A : List Nat} {x : D} {X : List Nat} {h : Hea} (q : hx n p A x X) (g : MP.get h n = some (.lst (wd p A))) : Hd h p x X := by
  rcases q with rfl | ⟨rfl, rfl⟩
  · exact .inl rfl
  · exact .inr ⟨_, rfl, g⟩
def paI (p a : Nat) (h : Hea) (s : Sg) (i : Nat) (h' : Hea) : Prop := ∃ (hh : Hea), h' = c2 h.length p ((List.range i).filter fun n => !s.v (bits p n)) ((List.range i).filter fun n => s.v (bits p n)) hh ∧ hh = h
theorem fil_succ {f : Nat → Bool} {i : Nat} : (List.range (i + 1)).filter f = (List.range i).filter f ++ if f i = true then [i] else [] := by
  rw [List.range_succ, List.filter_append]
  congr 1
  by_cases hc : f i = true <;> simp [hc]
theorem parted_at {gs gb ga gd : Nat} (e : Fs[g]? = some (partedRF gs gb ga gd)) (es : Fs[gs]? = some (sayingRF gd gs)) (eb : Fs[gb]? = some (bitF gb)) (ea : Fs[ga]? = some allEF) (ed : Fs[gd]? = some drawTF) {p a : Nat} (h1 : 1 ≤ p) (h5 : p ≤ 5) {r : Bool} {N : Nat} (hN : 8 ≤ N) {h : Hea} (pen : Pn GT h a) :
    WP (run Fs N g [.ref a, .int p, .bl r] h) (fun d h' => ∃ (s : Sg) (Y M : List Nat), d = .tup [casD p Y M, s.d] ∧ s.ok p [0, 1] 4 ∧ (r = true → s.nn = true) ∧ (Wn p Y ∧ ∀ n ∈ Y, s.v (bits p n) = true) ∧ (Wn p M ∧ ∀ n ∈ M, s.v (bits p n) = false) ∧ (∃ c, h' = put h a c) ∧ Pn GT h' a) NX := by
  obtain ⟨k, rfl⟩ : ∃ k, N = k + 1 := ⟨N - 1, by omega⟩
  have P : Drw GT (run Fs k) gd := Drw.mkT ed (by omega)
  have hz := two5 h5
  rw [run_at e]
  refine WP_exF rfl ?_
  simp only [partedRF]
  have S4 : WP (run Fs k gs [.ref a, .int p, .int 4, .bl r] h) (fun d h' => ∃ s : Sg, d = s.d ∧ (s.ok p [0, 1] 4 ∧ (r = true → s.nn = true) ∧ ((∃ c, h' = put h a c) ∧ Pn GT h' a))) NX := saying_at es ed h1 h5 4 k h (by omega) pen
  infer_instance
  refine W_meltV (S4.nx fun d h1' q => ?_)
  obtain ⟨s0, rfl, hs0, hr0, e1, p1⟩ := q
  refine ⟨nb_ref s0.nb, ?_⟩
  infer_instance
  rw [allE_at ea h1 (by omega) (by omega), melt_new (Nat.le_refl _)]
  infer_instance
  refine W_lcmap (xs := List.range (2 ^ p)) (fun n => dI (bits p n)) (fun n => .int (b2i (s0.v (bits p n)))) (by rw [List.length_range]; unfold SL; omega) (fun n hn => ?_) (fun _ _ => below_int) ?_
  · infer_instance
    rw [bit_at eb hs0 (by omega)]
    infer_instance
  rw [show ((List.range (2 ^ p)).map fun n => D.int (b2i (s0.v (bits p n)))) = (tabS p s0).map .int by unfold tabS; rw [List.map_map]; rfl]
  infer_instance
  rw [List.length_map, tabS_len]
  infer_instance
  rw [show D.tup [.int 0, .int ((2 ^ p : Nat) : Int)] = .tup ([(0 : Int), ((2 ^ p : Nat) : Int)].map .int) from rfl, inn_intsT]
  infer_instance
  refine Ite.cut (fun ρ h' => (∃ s : Sg, (∃ z1 z2 z3 z4 z5, ρ = [some (.ref a), some (.int p), some (.bl r), some s.d, z1, z2, z3, z4, z5]) ∧ Gs p r s) ∧ (∃ c, h' = put h1' a c) ∧ Pn GT h' a) (fun hc => ?_) (fun hc => ?_) ?_
  · infer_instance
    refine P.call p1 (by omega) (by omega) fun i h2 i0 i1 e2 p2 => ?_
    infer_instance
    exact ⟨⟨.is i 1, (by (repeat apply Exists.intro); rfl), .leaf h5 i0 i1⟩, e2, p2⟩
  · infer_instance
    exact ⟨⟨s0, (by (repeat apply Exists.intro); rfl), .of hs0 hr0 hc⟩, p1.self, p1⟩
  rintro ρ h2 ⟨⟨s, ⟨_, _, _, _, _, rfl⟩, G⟩, e2, p2⟩
  have e3 := puts2 e1 e2
  have l3 := puts2_len e3
  trivial
  rw [B_cons]
  trivial
  rw [B_cons]
  trivial
  refine ⟨by bv_omega, ?_⟩
  rw [allE_at ea h1 (by omega) (by omega), show h2.length + 1 + 1 + 1 = (Cell.lst [D.ref (List.length h2), D.ref (List.length h2 + 1)] :: Cell.lst [] :: Cell.lst [] :: h2).length from rfl, melt_new (Nat.le_refl _)]
  trivial
  refine frL_val (fun i ρ h' => (∃ z1 z2 z3 z4, ρ = [some (.ref a), some (.int p), some (.bl r), some s.d, z1, some (.ref (h2.length + 1 + 1)), z2, z3, z4]) ∧ paI p a h2 s i h') ⟨(by (repeat apply Exists.intro); rfl), h2, rfl, rfl⟩ ?_ ?_
  · rintro i hi ρ h' ⟨⟨_, _, _, _, rfl⟩, hh, rfl, rfl⟩
    have hi' : i < 2 ^ p := by rw [wordsD_len] at hi; exact hi
    have lf : ∀ f : Nat → Bool, ((List.range i).filter f).length ≤ i := fun f => by have := List.length_filter_le f (List.range i); rwa [List.length_range] at this
    rw [show (wordsD p)[i] = dI (bits p i) by simp [wordsD]]
    have wa : ∀ L : List Nat, wd p L ++ [dI (bits p i)] = wd p (L ++ [i]) := fun L => by unfold wd; rw [List.map_append]; rfl
    infer_instance
    rw [bit_at eb G.ok (by omega)]
    infer_instance
    have la := lf fun n => !s.v (bits p n)
    have lb := lf fun n => s.v (bits p n)
    unfold paI
    rw [fil_succ, fil_succ]
    generalize (List.range i).filter (fun n => !s.v (bits p n)) = A at la
    generalize (List.range i).filter (fun n => s.v (bits p n)) = B at lb
    cases hv : s.v (bits p i) with
    | false =>
      rw [show ixH (c2 hh.length p A B hh) (.ref (hh.length + 1 + 1)) (.int (b2i false)) = some (.ref hh.length) from ix_ref (i := 0) (k := 0) (get_c2o rfl) rfl]
      infer_instance
      refine ⟨rcv_of (get_c2a rfl) (fun z => nomatch z), ?_⟩
      infer_instance
      rw [app_ok (get_c2a rfl) (by rw [wd_len]; unfold SL; omega) below_dI, wa, put_c2a rfl]
      infer_instance
      exact ⟨(by (repeat apply Exists.intro); rfl), hh, by simp, rfl⟩
    | true =>
      rw [show ixH (c2 hh.length p A B hh) (.ref (hh.length + 1 + 1)) (.int (b2i true)) = some (.ref (hh.length + 1)) from ix_ref (i := 1) (k := 1) (get_c2o rfl) rfl]
      infer_instance
      refine ⟨rcv_of (get_c2b rfl) (fun z => nomatch z), ?_⟩
      infer_instance
      rw [app_ok (get_c2b rfl) (by rw [wd_len]; unfold SL; omega) below_dI, wa, put_c2b rfl]
      infer_instance
      exact ⟨(by (repeat apply Exists.intro); rfl), hh, by simp, rfl⟩
  rintro ρ h' ⟨⟨_, _, _, _, rfl⟩, hh, rfl, rfl⟩
  rw [wordsD_len]
  have sA : ((List.range (2 ^ p)).filter fun n => !s.v (bits p n)).Sublist (List.range (2 ^ p)) := List.filter_sublist
  have sB : ((List.range (2 ^ p)).filter fun n => s.v (bits p n)).Sublist (List.range (2 ^ p)) := List.filter_sublist
  have vA : ∀ n ∈ ((List.range (2 ^ p)).filter fun n => !s.v (bits p n)), s.v (bits p n) = false := fun n hn => by simpa using (List.mem_filter.mp hn).2
  have vB : ∀ n ∈ ((List.range (2 ^ p)).filter fun n => s.v (bits p n)), s.v (bits p n) = true := fun n hn => (List.mem_filter.mp hn).2
  have nA : ((List.range (2 ^ p)).filter fun n => !s.v (bits p n)) ≠ [] := fun z => by
    obtain ⟨n, hn, hv⟩ := G.no
    have := List.filter_eq_nil_iff.mp z n (List.mem_range.mpr hn)
    rw [hv] at this
    exact this rfl
  have nB : ((List.range (2 ^ p)).filter fun n => s.v (bits p n)) ≠ [] := fun z => by
    obtain ⟨n, hn, hv⟩ := G.yes
    have := List.filter_eq_nil_iff.mp z n (List.mem_range.mpr hn)
    exact this hv
  generalize ((List.range (2 ^ p)).filter fun n => !s.v (bits p n)) = A at sA vA nA
  generalize ((List.range (2 ^ p)).filter fun n => s.v (bits p n)) = B at sB vB nB
  have lA := subl_len sA
  have lB := subl_len sB
  have lT : ∀ h4 : Hea, h4.length = hh.length → hh.length + 1 + 1 = (T2 p A B h4).length := fun h4 l => by simp only [T2, List.length_cons]; omega
  have gA : ∀ h4 : Hea, h4.length = hh.length → MP.get (T2 p A B h4) hh.length = some (.lst (wd p A)) := fun h4 l => by
    unfold T2
    rw [← l, get_und (by simp only [List.length_cons]; omega)]; exact get_top
  have gB : ∀ h4 : Hea, h4.length = hh.length → MP.get (T2 p A B h4) (hh.length + 1) = some (.lst (wd p B)) := fun h4 l => by
    unfold T2
    rw [← l]; exact get_self
  have step : ∀ (j : Nat), j < 2 → ∀ (nj : Nat) (Aj : List Nat), (∀ h4 : Hea, h4.length = hh.length → MP.get (T2 p A B h4) nj = some (.lst (wd p Aj))) → ∀ (x y : D) (X : List Nat), hx nj p Aj x X → X ≠ [] → X.length ≤ 32 → ∀ (h3 : Hea), (∃ c, h3 = put hh a c) → Pn GT h3 a → ∀ (u4 u6 u8 : Option D) Q E,
      WP (exB (run Fs k) [.set 8 (.lc false (.nam 6) (.one 6) (.val (.idx (.nam 5) (.nam 7))) (.some (.cmp .eq (.cal false gd (.cons (.nam 0) (.cons (.cst (.int 3)) .nil))) (.cst (.int 0)))) [6]),
        .sti (.nam 5) (.nam 7) (.lor (.nam 8) (.slc false (.idx (.nam 5) (.nam 7)) (.some (.neg (.cst (.int 1)))) .none))] [some (.ref a), some (.int p), some (.bl r), some s.d, u4, some (.ref (hh.length + 1 + 1)), u6, some (.int j), u8] (.lst (prj j x y) :: T2 p A B h3))
        (Bod (fun ρ h' => (∃ z1 z2 z3 z4, ρ = [some (.ref a), some (.int p), some (.bl r), some s.d, z1, some (.ref (hh.length + 1 + 1)), z2, z3, z4]) ∧ ∃ X' h4, h' = .lst (prj j (.lst (wd p X')) y) :: T2 p A B h4 ∧ X'.Sublist X ∧ X' ≠ [] ∧ (∃ c, h4 = put hh a c) ∧ Pn GT h4 a) Q) E := by
    intro j hj nj Aj gj x y X hX nX lX h3 e3 p3 u4 u6 u8 Q E
    have jj : ∀ (h4 : Hea), h4.length = hh.length → ∀ x y : D, ixH (.lst (prj j x y) :: T2 p A B h4) (.ref (hh.length + 1 + 1)) (.int j) = some x := fun h4 l x y => by
      rw [lT h4 l]
      have : j = 0 ∨ j = 1 := by omega
      rcases this with rfl | rfl
      · exact ix_ref (i := 0) (k := 0) get_top rfl
      · exact ix_ref (i := 1) (k := 1) get_top rfl
    have s0 : ∀ (h4 : Hea), h4.length = hh.length → ∀ (x y z : D), (∀ n, below n z = true) → stiH (.lst (prj j x y) :: T2 p A B h4) (.ref (hh.length + 1 + 1)) (.int j) z = some (.lst (prj j z y) :: T2 p A B h4) := fun h4 l x y z b => by
      rw [lT h4 l]
      have : j = 0 ∨ j = 1 := by omega
      rcases this with rfl | rfl
      · rw [sti_ok (i := ((0 : Nat) : Int)) (k := 0) get_top rfl (b _), put_top]; rfl
      · rw [sti_ok (i := ((1 : Nat) : Int)) (k := 1) get_top rfl (b _), put_top]; rfl
    have HD : ∀ h4 : Hea, h4.length = hh.length → Hd (.lst (prj j x y) :: T2 p A B h4) p x X := fun h4 l => (hX.hd (gj h4 l)).up
    have l3 := puts2_len e3
    infer_instance
    rw [jj h3 l3]
    infer_instance
    obtain ⟨w, ew, wl, wi⟩ := walk_hd (HD h3 l3)
    rw [ew]
    trivial
    refine lcL_ind (fun i acc h' => ∃ (L : List Nat) (h4 : Hea), acc = wd p L ∧ L.Sublist (X.take i) ∧ h' = .lst (prj j x y) :: T2 p A B h4 ∧ (∃ c, h4 = put hh a c) ∧ Pn GT h4 a) ⟨[], h3, rfl, by simp, rfl, e3, p3⟩ ?_ ?_
    · rintro i hi acc h' ⟨L, h4, rfl, hL, rfl, e4, p4⟩
      have hi' : i < X.length := by rw [← wl]; exact hi
      have lL := hL.length_le
      rw [List.length_take] at lL
      refine ⟨dI (bits p X[i]), _, (wi _ (HD h4 (puts2_len e4))).1 i hi hi', rfl, ?_⟩
      infer_instance
      refine P.callP (.lst (prj j x y) :: .lst (wd p B) :: .lst (wd p A) :: []) p4 (by omega) (by omega) fun z h5' z0 z1 e5 p5 => ?_
      have e6 := puts2 e4 e5
      infer_instance
      split
      · infer_instance
        refine ⟨⟨by rw [wd_len]; unfold SL; omega, below_dI⟩, L ++ [X[i]], h5', by unfold wd; rw [List.map_append]; rfl, ?_, rfl, e6, p5⟩
        rw [List.take_add_one, List.getElem?_eq_getElem hi', Option.toList_some]
        exact hL.append (List.Sublist.refl _)
      · refine ⟨L, h5', rfl, ?_, rfl, e6, p5⟩
        rw [List.take_add_one]
        exact hL.trans (List.sublist_append_left _ _)
    · rintro acc h' ⟨L, h4, rfl, hL, rfl, e4, p4⟩
      rw [wl, List.take_length] at hL
      have l4 := puts2_len e4
      refine ⟨(wi _ (HD h4 l4)).2, ?_⟩
      infer_instance
      rw [tru_wdl]
      cases hE : L.isEmpty with
      | false =>
        rw [show (!false) = true from rfl]
        infer_instance
        rw [s0 h4 l4 _ _ _ (fun n => below_nb wdl_nb)]
        infer_instance
        exact ⟨(by (repeat apply Exists.intro); rfl), L, h4, rfl, hL, (fun z => by rw [z] at hE; cases hE), e4, p4⟩
      | true =>
        rw [show (!true) = false from rfl]
        infer_instance
        rw [jj h4 l4]
        infer_instance
        rw [(HD h4 l4).slLast]
        infer_instance
        rw [s0 h4 l4 _ _ _ (fun n => below_nb wdl_nb)]
        infer_instance
        refine ⟨(by (repeat apply Exists.intro); rfl), X.drop (X.length - 1), h4, rfl, List.drop_sublist _ _, fun z => ?_, e4, p4⟩
        have := congrArg List.length z
        rw [List.length_drop] at this
        simp only [List.length_nil] at this
        have : X.length ≠ 0 := fun z => nX (List.length_eq_zero_iff.mp z)
        omega
  trivial
  rw [B_cons]
  trivial
  refine P.callP (.lst [.ref hh.length, .ref (hh.length + 1)] :: .lst (wd p B) :: .lst (wd p A) :: []) p2 (by omega) (by omega) fun w h3 w0 w1 e4 p4 => ?_
  trivial
  refine Ite.cut (fun ρ h' => (∃ z1 z2 z3 z4, ρ = [some (.ref a), some (.int p), some (.bl r), some s.d, z1, some (.ref (hh.length + 1 + 1)), z2, z3, z4]) ∧ ∃ x y X Y h4, h' = .lst [x, y] :: T2 p A B h4 ∧ hx hh.length p A x X ∧ hx (hh.length + 1) p B y Y ∧ X.Sublist A ∧ X ≠ [] ∧ Y.Sublist B ∧ Y ≠ [] ∧ (∃ c, h4 = put hh a c) ∧ Pn GT h4 a) (fun hc => ?_) (fun hc => ?_) ?_
  · trivial
    rw [B_cons]
    trivial
    refine ⟨by bv_omega, ?_⟩
    refine (step 0 (by omega) hh.length A gA (.ref hh.length) (.ref (hh.length + 1)) A (.inr ⟨rfl, rfl⟩) nA (by omega) h3 e4 p4 _ _ _ _ _).bod ?_
    rintro ρ h' ⟨⟨_, _, _, _, rfl⟩, X', h4, rfl, sX, nX, e5, p5⟩
    trivial
    refine (step 1 (by omega) (hh.length + 1) B gB (.ref (hh.length + 1)) (.lst (wd p X')) B (.inr ⟨rfl, rfl⟩) nB (by omega) h4 e5 p5 _ _ _ _ _).bod ?_
    rintro ρ h' ⟨⟨_, _, _, _, rfl⟩, Y', h6, rfl, sY, nY, e6, p6⟩
    infer_instance
    exact ⟨(by (repeat apply Exists.intro); rfl), _, _, X', Y', h6, rfl, .inl rfl, .inl rfl, sX, nX, sY, nY, e6, p6⟩
  · infer_instance
    exact ⟨(by (repeat apply Exists.intro); rfl), _, _, A, B, h3, rfl, .inr ⟨rfl, rfl⟩, .inr ⟨rfl, rfl⟩, List.Sublist.refl _, nA, List.Sublist.refl _, nB, e4, p4⟩
  · rintro ρ h' ⟨⟨_, _, _, _, rfl⟩, x, y, X, Y, h4, rfl, hX, hY, sX, nX, sY, nY, e5, p5⟩
    have l4 := puts2_len e5
    have i0 : ixH (.lst [x, y] :: T2 p A B h4) (.ref (hh.length + 1 + 1)) (.int 0) = some x := by rw [lT h4 l4]; exact ix_ref (i := 0) (k := 0) get_top rfl
    have i1 : ixH (.lst [x, y] :: T2 p A B h4) (.ref (hh.length + 1 + 1)) (.int 1) = some y := by rw [lT h4 l4]; exact ix_ref (i := 1) (k := 1) get_top rfl
    infer_instance
    rw [i1]
    infer_instance
    rw [((hY.hd (gB h4 l4)).up (c := .lst [x, y])).tuple]
    infer_instance
    rw [i0]
    infer_instance
    rw [((hX.hd (gA h4 l4)).up (c := .lst [x, y])).tuple]
    infer_instance
    rw [show D.tup [.tup [.int p, .tup (wd p Y), .tup (wd p X)], s.d] = .tup [casD p Y X, s.d] from rfl, leave_tup (by simp only [belows, below_nb casD_nb, below_nb Sg.nb, Bool.and_self])]
    have e7 := puts2 e3 e5
    unfold T2
    rw [trunc_cons (by simp only [List.length_cons]; omega), trunc_cons (by simp only [List.length_cons]; omega), trunc_cons (by omega), trunc_eq (by omega)]
    infer_instance
    exact ⟨s, Y, X, rfl, G.ok, G.nn, ⟨⟨nY, sY.trans sB⟩, fun n hn => vB n (sY.subset hn)⟩, ⟨⟨nX, sX.trans sA⟩, fun n hn => vA n (sX.subset hn)⟩, e7, p5⟩
end
end MP

set_option maxHeartbeats 4000000
/-! Talks bent. -/
namespace MP
open PySem
local macro_rules | `(tactic| trivial) => `(tactic| try simp -implicitDefEqProofs only [frL_nil, ↓frL_one, ↓frL_many, TupV_lst, ↓T_mth, walkN_dI, walkN_tup, walkN_lst, walkZ_tt, walkZ_tl, walkZ_lt, walkZ_ll, walkV_dI, len_dI, leave_dI, mk_dI, tuple_dI, isi_dI, TupV_dI, WP_ok, WP_nox, Nam_some, Opt_some, Opt_if, Ite_tt, Ite_ff, IntV_int, TupV_tup, setAll, BlV_bl, ↓Nxt_nx, ↓Nxt_rt, ↓Nxt_bk, ↓Nxt_ct, ↓Nxt_xc, ↓Bod_nx, ↓Bod_ct, ↓Bod_bk, ↓Bod_rt, ↓Bod_xc, ↓Ret_rt, ↓Ret_nx, ↓Ret_xc, ↓W_cst, ↓W_nam, ↓W_bin, ↓W_neg, ↓W_cmp, ↓W_land, ↓W_lor, ↓W_lnot, ↓W_ite, ↓W_nil, ↓W_cons, ↓W_tup, ↓W_lst, ↓W_dic, ↓W_idx, ↓W_ono, ↓W_oso, ↓W_slc, ↓W_cal, ↓W_blt, ↓W_mth, ↓W_val, ↓W_rng, ↓W_rng2, ↓W_zip, ↓W_enu, ↓W_glb, ↓W_lc, ↓W_lcc, ↓W_chn, ↓T_cmp, ↓T_chn, ↓T_land, ↓T_lor, ↓T_lnot, ↓T_ite, ↓T_cst, ↓T_nam, ↓T_idx, ↓T_cal, ↓T_blt, ↓T_bin, tru_bl, tru_int, B_nil, S_exp, S_set, S_sti, S_ifs, S_whl, S_for, S_ret, S_rtn, S_brk, S_cnt, S_unp, bop_add, bop_sub, bop_mul, bop_fdiv, bop_mod, bop_pow, bop_shl, bop_shr, bop_and, bop_or, bop_xor, bop_tup, bop_str, bop_smul, bop_rep, bop_cat, cop_eq_int, cop_ne_int, cop_lt_int, cop_le_int, cop_gt_int, cop_ge_int, cop_isB, cop_notB, mk_int', mk_bl', mk_non', mk_str', mk_tup', mk_ff, mk_tt, mk_ttD, bl_len_scr, bl_len_lst, bl_len_tup, bl_len_str, bl_abs, bl_max, bl_min, bl_int, bl_intb, bl_str, bl_tuple_lst, bl_tuple_tup, bl_list_lst, bl_list_tup, bl_all, bl_any, bl_sum, bl_isi, isi_int, isi_bl, isi_str, isi_tup, isi_lst, isi_non, isi_dic, omap_some, isTy, List.any_cons, List.any_nil, Bool.or_false, Bool.or_true, Bool.true_or, Bool.false_or, leave_int, leave_bl, leave_non, leave_str, walkV_lst, walkV_tup, wipeE, if_true, decide_true, decide_false, Int.cast_ofNat_Int, Int.natCast_zero, Int.natCast_one, Bool.false_eq_true, if_false, Bool.not_true, Bool.not_false, Nat.zero_le, true_and, and_true, ne_eq, not_false_eq_true, start, List.map_cons, List.map_nil, List.length_cons, List.length_nil, List.replicate, List.cons_append, List.nil_append, List.set_cons_zero, List.set_cons_succ, List.getElem?_cons_zero, List.getElem?_cons_succ, Nat.reduceSub, Nat.reduceAdd, Int.reduceEq, Int.reduceLE, Int.reduceLT, Int.reducePow, Int.reduceToNat, Nat.reduceLT, Nat.reduceLeDiff, Int.reduceNeg, Nat.reducePow, bindT_one, s_ii, s_ai, s_oi, s_aa, s_oa, slT, slL, ix_t0, ix_t1, ix_t2, ix_t3, ix_l0, ix_l1, ix_l2, melt_int, melt_bl, melt_str, melt_non, melt_tup, melt_lst, melt_dI, melt_scr, tru_str0, isN_cop, notN_cop, isNon, q_is_is, r_is_is, q_is_and, r_is_and, q_is_or, r_is_or, q_is_end, r_is_end, q_is_yes, r_is_yes, q_is_no, r_is_no, q_is_any, r_is_any, q_is_rising, r_is_rising, q_and_is, r_and_is, q_and_and, r_and_and, q_and_or, r_and_or, q_and_end, r_and_end, q_and_yes, r_and_yes, q_and_no, r_and_no, q_and_any, r_and_any, q_and_rising, r_and_rising, q_or_is, r_or_is, q_or_and, r_or_and, q_or_or, r_or_or, q_or_end, r_or_end, q_or_yes, r_or_yes, q_or_no, r_or_no, q_or_any, r_or_any, q_or_rising, r_or_rising, q_end_is, r_end_is, q_end_and, r_end_and, q_end_or, r_end_or, q_end_end, r_end_end, q_end_yes, r_end_yes, q_end_no, r_end_no, q_end_any, r_end_any, q_end_rising, r_end_rising, q_yes_is, r_yes_is, q_yes_and, r_yes_and, q_yes_or, r_yes_or, q_yes_end, r_yes_end, q_yes_yes, r_yes_yes, q_yes_no, r_yes_no, q_yes_any, r_yes_any, q_yes_rising, r_yes_rising, q_no_is, r_no_is, q_no_and, r_no_and, q_no_or, r_no_or, q_no_end, r_no_end, q_no_yes, r_no_yes, q_no_no, r_no_no, q_no_any, r_no_any, q_no_rising, r_no_rising, q_any_is, r_any_is, q_any_and, r_any_and, q_any_or, r_any_or, q_any_end, r_any_end, q_any_yes, r_any_yes, q_any_no, r_any_no, q_any_any, r_any_any, q_any_rising, r_any_rising, q_rising_is, r_rising_is, q_rising_and, r_rising_and, q_rising_or, r_rising_or, q_rising_end, r_rising_end, q_rising_yes, r_rising_yes, q_rising_no, r_rising_no, q_rising_any, r_rising_any, q_rising_rising, r_rising_rising])
local macro_rules | `(tactic| bv_omega) => `(tactic| first | omega | (unfold SL; omega) | exact ⟨R62_of (by omega) (by omega), R62_of (by omega) (by omega)⟩ | exact smallL (by omega) (by omega) | exact smallR (by omega) (by omega) | exact rcv_join | exact rcv_end | (simp only [List.length_cons, List.length_nil, List.length_append, List.length_map]; unfold SL; omega))
local macro_rules | `(tactic| infer_instance) => `(tactic| repeat (first | (simp -implicitDefEqProofs only [frL_nil, ↓frL_one, ↓frL_many, TupV_lst, ↓T_mth, walkN_dI, walkN_tup, walkN_lst, walkZ_tt, walkZ_tl, walkZ_lt, walkZ_ll, walkV_dI, len_dI, leave_dI, mk_dI, tuple_dI, isi_dI, TupV_dI, WP_ok, WP_nox, Nam_some, Opt_some, Opt_if, Ite_tt, Ite_ff, IntV_int, TupV_tup, setAll, BlV_bl, ↓Nxt_nx, ↓Nxt_rt, ↓Nxt_bk, ↓Nxt_ct, ↓Nxt_xc, ↓Bod_nx, ↓Bod_ct, ↓Bod_bk, ↓Bod_rt, ↓Bod_xc, ↓Ret_rt, ↓Ret_nx, ↓Ret_xc, ↓W_cst, ↓W_nam, ↓W_bin, ↓W_neg, ↓W_cmp, ↓W_land, ↓W_lor, ↓W_lnot, ↓W_ite, ↓W_nil, ↓W_cons, ↓W_tup, ↓W_lst, ↓W_dic, ↓W_idx, ↓W_ono, ↓W_oso, ↓W_slc, ↓W_cal, ↓W_blt, ↓W_mth, ↓W_val, ↓W_rng, ↓W_rng2, ↓W_zip, ↓W_enu, ↓W_glb, ↓W_lc, ↓W_lcc, ↓W_chn, ↓T_cmp, ↓T_chn, ↓T_land, ↓T_lor, ↓T_lnot, ↓T_ite, ↓T_cst, ↓T_nam, ↓T_idx, ↓T_cal, ↓T_blt, ↓T_bin, tru_bl, tru_int, B_nil, S_exp, S_set, S_sti, S_ifs, S_whl, S_for, S_ret, S_rtn, S_brk, S_cnt, S_unp, bop_add, bop_sub, bop_mul, bop_fdiv, bop_mod, bop_pow, bop_shl, bop_shr, bop_and, bop_or, bop_xor, bop_tup, bop_str, bop_smul, bop_rep, bop_cat, cop_eq_int, cop_ne_int, cop_lt_int, cop_le_int, cop_gt_int, cop_ge_int, cop_isB, cop_notB, mk_int', mk_bl', mk_non', mk_str', mk_tup', mk_ff, mk_tt, mk_ttD, bl_len_scr, bl_len_lst, bl_len_tup, bl_len_str, bl_abs, bl_max, bl_min, bl_int, bl_intb, bl_str, bl_tuple_lst, bl_tuple_tup, bl_list_lst, bl_list_tup, bl_all, bl_any, bl_sum, bl_isi, isi_int, isi_bl, isi_str, isi_tup, isi_lst, isi_non, isi_dic, omap_some, isTy, List.any_cons, List.any_nil, Bool.or_false, Bool.or_true, Bool.true_or, Bool.false_or, leave_int, leave_bl, leave_non, leave_str, walkV_lst, walkV_tup, wipeE, if_true, decide_true, decide_false, Int.cast_ofNat_Int, Int.natCast_zero, Int.natCast_one, Bool.false_eq_true, if_false, Bool.not_true, Bool.not_false, Nat.zero_le, true_and, and_true, ne_eq, not_false_eq_true, start, List.map_cons, List.map_nil, List.length_cons, List.length_nil, List.replicate, List.cons_append, List.nil_append, List.set_cons_zero, List.set_cons_succ, List.getElem?_cons_zero, List.getElem?_cons_succ, Nat.reduceSub, Nat.reduceAdd, Int.reduceEq, Int.reduceLE, Int.reduceLT, Int.reducePow, Int.reduceToNat, Nat.reduceLT, Nat.reduceLeDiff, Int.reduceNeg, Nat.reducePow, bindT_one, s_ii, s_ai, s_oi, s_aa, s_oa, slT, slL, ix_t0, ix_t1, ix_t2, ix_t3, ix_l0, ix_l1, ix_l2, melt_int, melt_bl, melt_str, melt_non, melt_tup, melt_lst, melt_dI, melt_scr, tru_str0, isN_cop, notN_cop, isNon, q_is_is, r_is_is, q_is_and, r_is_and, q_is_or, r_is_or, q_is_end, r_is_end, q_is_yes, r_is_yes, q_is_no, r_is_no, q_is_any, r_is_any, q_is_rising, r_is_rising, q_and_is, r_and_is, q_and_and, r_and_and, q_and_or, r_and_or, q_and_end, r_and_end, q_and_yes, r_and_yes, q_and_no, r_and_no, q_and_any, r_and_any, q_and_rising, r_and_rising, q_or_is, r_or_is, q_or_and, r_or_and, q_or_or, r_or_or, q_or_end, r_or_end, q_or_yes, r_or_yes, q_or_no, r_or_no, q_or_any, r_or_any, q_or_rising, r_or_rising, q_end_is, r_end_is, q_end_and, r_end_and, q_end_or, r_end_or, q_end_end, r_end_end, q_end_yes, r_end_yes, q_end_no, r_end_no, q_end_any, r_end_any, q_end_rising, r_end_rising, q_yes_is, r_yes_is, q_yes_and, r_yes_and, q_yes_or, r_yes_or, q_yes_end, r_yes_end, q_yes_yes, r_yes_yes, q_yes_no, r_yes_no, q_yes_any, r_yes_any, q_yes_rising, r_yes_rising, q_no_is, r_no_is, q_no_and, r_no_and, q_no_or, r_no_or, q_no_end, r_no_end, q_no_yes, r_no_yes, q_no_no, r_no_no, q_no_any, r_no_any, q_no_rising, r_no_rising, q_any_is, r_any_is, q_any_and, r_any_and, q_any_or, r_any_or, q_any_end, r_any_end, q_any_yes, r_any_yes, q_any_no, r_any_no, q_any_any, r_any_any, q_any_rising, r_any_rising, q_rising_is, r_rising_is, q_rising_and, r_rising_and, q_rising_or, r_rising_or, q_rising_end, r_rising_end, q_rising_yes, r_rising_yes, q_rising_no, r_rising_no, q_rising_any, r_rising_any, q_rising_rising, r_rising_rising, ↓B_cons]) | (with_reducible refine And.intro ?_ ?_; focus bv_omega)))
section
variable {Fs : List Fn} {g : Nat}
theorem ne_bits {h : Hea} {p n m : Nat} (hn : n < 2 ^ p) (hm : m < 2 ^ p) : cop .ne h (dI (bits p n)) (dI (bits p m)) = some (.bl (!decide (n = m))) := by
  by_cases e : n = m
  · subst e
    rw [ne_refl (rsv_nb nb_dI) (rsv_nb nb_dI) nb_dI (by rw [dep_dI]; omega), decide_eq_true rfl]; rfl
  · rw [ne_nb nb_dI nb_dI (by rw [dep_dI]; omega) (fun z => e (bitsN_inj hn hm (dI_inj z))), decide_eq_false e]; rfl
theorem fil_ne {L : List Nat} {n : Nat} : (L.filter fun m => !decide (m = n)).length = L.length ↔ n ∉ L := by
  constructor
  · intro h z
    have := List.length_filter_eq_length_iff.mp h n z
    simp at this
  · intro h
    exact List.length_filter_eq_length_iff.mpr fun m hm => by
      have : m ≠ n := fun z => h (z ▸ hm)
      simpa using this
theorem bent_at {gd ga : Nat} (e : Fs[g]? = some (bentF gd g ga)) (ed : Fs[gd]? = some drawTF) (ea : Fs[ga]? = some allEF) {p a : Nat} (h1 : 1 ≤ p) (h5 : p ≤ 5) : ∀ {t : Tk} {k N : Nat}, t.gd p k → k + 3 ≤ N → ∀ h : Hea, Pn GT h a →
    WP (run Fs N g [.ref a, .int p, t.d p] h) (fun d h' => ∃ t' : Tk, d = t'.d p ∧ (t'.gd p k ∧ ((∃ c, h' = put h a c) ∧ Pn GT h' a))) NX := by
  have hz := two5 h5
  have hp := Nat.two_pow_pos p
  intro t
  induction t with
  | en i =>
    intro k N ht hN h pen
    obtain ⟨m, rfl⟩ : ∃ m, N = m + 1 := ⟨N - 1, by omega⟩
    have P : Drw GT (run Fs m) gd := Drw.mkT ed (by omega)
    have hi : 0 ≤ i ∧ i < p := ht
    rw [run_at e]
    refine WP_exF rfl ?_
    simp only [bentF, Tk.d]
    infer_instance
    have mx : ∀ x : Int, x = (p : Int) - 1 → 0 < (if x > 1 then x else 1) ∧ (if x > 1 then x else 1) ≤ 5 := fun x z => by split <;> omega
    obtain ⟨m0, m1⟩ := mx _ rfl
    refine P.call pen (by omega) (by omega) fun j h2 j0 j1 e1 p1 => ?_
    infer_instance
    have q0 := Int.fmod_nonneg_of_pos (i + 1 + j) (show (0 : Int) < (p : Int) by omega)
    have q1 := Int.fmod_lt_of_pos (i + 1 + j) (show (0 : Int) < (p : Int) by omega)
    generalize (i + 1 + j).fmod (p : Int) = u at q0 q1
    rw [show D.tup [.str [101, 110, 100], .int u] = (Tk.en u).d p from rfl, leave_tk, trunc_eq (puts2_len e1)]
    infer_instance
    exact ⟨.en u, rfl, ⟨q0, q1⟩, e1, p1⟩
  | hd y L ta tb ia ib =>
    intro k N ht hN h pen
    cases k with
    | zero => exact ht.elim
    | succ k =>
      obtain ⟨wL, hta, htb⟩ : Ws p L ∧ ta.gd p k ∧ tb.gd p k := ht
      obtain ⟨m, rfl⟩ : ∃ m, N = m + 1 := ⟨N - 1, by omega⟩
      have P : Drw GT (run Fs m) gd := Drw.mkT ed (by omega)
      have ll := wL.len
      have fin : ∀ (y' : Bool) (L' : List Nat) (t1 t2 : Tk) (h' h'' : Hea), Ws p L' → t1.gd p k → t2.gd p k → (∃ c, h' = put h a c) → Pn GT h' a → trunc h.length h'' = h' → WP (leave h.length (.tup [.str (if y' = true then [121, 101, 115] else [110, 111]), .tup (wd p L'), t1.d p, t2.d p]) h'') (fun d h' => ∃ t' : Tk, d = t'.d p ∧ (t'.gd p (k + 1) ∧ ((∃ c, h' = put h a c) ∧ Pn GT h' a))) NX := by
        rintro y' L' t1 t2 h' h'' w q1 q2 e1 p1 te
        rw [show D.tup [.str (if y' = true then [121, 101, 115] else [110, 111]), .tup (wd p L'), t1.d p, t2.d p] = (Tk.hd y' L' t1 t2).d p from rfl, leave_tk, te]
        infer_instance
        exact ⟨_, rfl, ⟨w, q1, q2⟩, e1, p1⟩
      rw [run_at e]
      refine WP_exF rfl ?_
      simp only [bentF, Tk.d]
      infer_instance
      rw [yn_endE]
      infer_instance
      refine P.call pen (by omega) (by omega) fun w h2 w0 w1 e1 p1 => ?_
      infer_instance
      refine IteD (fun hc => ?_) (fun hc => ?_)
      · infer_instance
        refine W_meltV ((ia hta (by omega) h2 p1).nx fun d h' q => ?_)
        obtain ⟨t', rfl, ht', e2, p2⟩ := q
        refine ⟨nb_ref t'.nb, ?_⟩
        infer_instance
        exact fin y L t' tb h' h' wL ht' htb (puts2 e1 e2) p2 (trunc_eq (puts2_len (puts2 e1 e2)))
      infer_instance
      refine IteD (fun hc => ?_) (fun hc => ?_)
      · infer_instance
        refine W_meltV ((ib htb (by omega) h2 p1).nx fun d h' q => ?_)
        obtain ⟨t', rfl, ht', e2, p2⟩ := q
        refine ⟨nb_ref t'.nb, ?_⟩
        infer_instance
        exact fin y L ta t' h' h' wL hta ht' (puts2 e1 e2) p2 (trunc_eq (puts2_len (puts2 e1 e2)))
      infer_instance
      refine IteD (fun hc => ?_) (fun hc => ?_)
      · infer_instance
        refine P.callU p1 (by omega) (by omega) fun j h3 j0 j1 e2 p2 => ?_
        have l := puts2_len e2
        have e3 := puts2 e1 e2
        have te : ∀ c : Cell, trunc h.length (c :: h3) = h3 := fun c => by rw [trunc_cons (by have := puts2_len e3; omega), trunc_eq (puts2_len e3)]
        infer_instance
        have : j = 0 ∨ j = 1 := by omega
        rcases this with rfl | rfl
        · rw [show ∀ x y : D, ixH (.lst [x, y] :: h3) (.ref h2.length) (.int 0) = some x from fun x y => by rw [← l]; exact ix_ref (i := 0) (k := 0) get_top rfl]
          infer_instance
          exact fin true L tb ta h3 _ wL htb hta e3 p2 (te _)
        · rw [show ∀ x y : D, ixH (.lst [x, y] :: h3) (.ref h2.length) (.int 1) = some y from fun x y => by rw [← l]; exact ix_ref (i := 1) (k := 1) get_top rfl]
          infer_instance
          exact fin false L ta tb h3 _ wL hta htb e3 p2 (te _)
      infer_instance
      rw [allE_at ea h1 (by omega) (by omega), melt_new (Nat.le_refl _)]
      infer_instance
      rw [wordsD_len]
      refine P.call p1 (by omega) (by omega) fun o h3 o0 o1 e2 p2 => ?_
      have e3 := puts2 e1 e2
      obtain ⟨on, rfl⟩ : ∃ n : Nat, o = n := ⟨o.toNat, by omega⟩
      have on1 : on < 2 ^ p := by omega
      infer_instance
      rw [ix_wordsD on1]
      infer_instance
      refine W_lcfil (xs := L) (fun n => dI (bits p n)) (fun n => !decide (n = on)) (fun n => dI (bits p n)) (by unfold SL; omega) (fun n hn => ?_) (fun n hn _ => ?_) (fun _ _ => below_dI) ?_
      · infer_instance
        rw [ne_bits (wL.lt n hn) on1]
        infer_instance
      · infer_instance
      rw [show ((L.filter fun n => !decide (n = on)).map fun n => dI (bits p n)) = wd p (L.filter fun n => !decide (n = on)) from rfl]
      have lf : ∀ h : Hea, bltH .len (.lst (wd p (L.filter fun n => !decide (n = on))) :: h) [.ref h.length] = some (.int ((L.filter fun n => !decide (n = on)).length : Nat)) := fun h => by
        rw [bl_len_ref get_top, wd_len]
      infer_instance
      rw [lf]
      infer_instance
      rw [wd_len]
      infer_instance
      have l3 := puts2_len e3
      have wF := wL.fil fun n => !decide (n = on)
      have last : ∀ (L2 : List Nat), Ws p L2 → ∀ (u3 u4 u5 u11 : Option D), WP (exB (run Fs m) [.ret (.tup (.cons (.nam 7) (.cons (.blt false .tuple (.cons (.blt false .sorted (.cons (.nam 6) .nil)) .nil)) (.cons (.nam 9) (.cons (.nam 10) .nil)))))] [some (.ref a), some (.int p), some ((Tk.hd y L ta tb).d p), u3, u4, u5, some (.ref h3.length), some (.str (if y = true then [121, 101, 115] else [110, 111])), some (.tup (wd p L)), some (ta.d p), some (tb.d p), u11] (.lst (wd p L2) :: h3)) (Ret h.length (fun d h' => ∃ t' : Tk, d = t'.d p ∧ (t'.gd p (k + 1) ∧ ((∃ c, h' = put h a c) ∧ Pn GT h' a))) NX) (fun _ _ => False) := by
        intro L2 w2 u3 u4 u5 u11
        obtain ⟨L', eL, lL, hL', pm⟩ := sorted_wd h1 w2.lt (show Hd (.lst (wd p L2) :: h3) p (.ref h3.length) L2 from .inr ⟨_, rfl, get_top⟩)
        infer_instance
        rw [eL]
        infer_instance
        exact fin y L' ta tb h3 _ (ws_perm w2 hL' pm).1 hta htb e3 p2 (by rw [trunc_cons (by omega), trunc_eq l3])
      refine IteD (fun hc => ?_) (fun hc => ?_)
      · have hc : on ∉ L := fil_ne.mp (by omega)
        trivial
        rw [B_cons]
        trivial
        refine ⟨rcv_of get_top (fun z => nomatch z), ?_⟩
        trivial
        have lF := wF.len
        rw [app_ok get_top (by rw [wd_len]; unfold SL; omega) below_dI, put_top, show wd p (L.filter fun n => !decide (n = on)) ++ [dI (bits p on)] = wd p (L.filter (fun n => !decide (n = on)) ++ [on]) by unfold wd; rw [List.map_append]; rfl]
        trivial
        refine last _ ⟨?_, ?_⟩ _ _ _ _
        · rw [List.nodup_append]
          refine ⟨wF.nd, by simp, fun x hx z hz' => ?_⟩
          have : z = on := by simpa using hz'
          subst this
          exact fun q => hc (q ▸ (List.mem_filter.mp hx).1)
        · intro n hn
          rcases List.mem_append.mp hn with q | q
          · exact wF.lt n q
          · have : n = on := by simpa using q
            omega
      · trivial
        exact last _ wF _ _ _ _
end
end MP

namespace Lw
open MP
/-- flipped_word(word, some): 0 word, 1 some, 2 place, 3 bit -/
def f0 : Fn := ⟨2, 4, false,
   [.ret (.blt true .tuple (.cons (.lc false (.ite (.cmp .inn (.nam 2) (.nam 1)) (.bin false .sub (.cst (.int 1)) (.nam 3)) (.nam 3)) (.many [2, 3]) (.enu (.nam 0)) .none [2, 3]) .nil))]⟩
/-- flipped_words(words, some): 0 words, 1 some, 2 word -/
def f1 : Fn := ⟨2, 3, false,
   [.ret (.blt true .tuple (.cons (.blt false .sorted (.cons (.lc false (.cal false 0 (.cons (.nam 2) (.cons (.nam 1) .nil))) (.one 2) (.val (.nam 0)) .none [2]) .nil)) .nil))]⟩
/-- flipped_case(case, some): 0 case, 1 some -/
def f2 : Fn := ⟨2, 2, false,
   [.ret (.tup (.cons (.idx (.nam 0) (.cst (.int 0))) (.cons (.cal false 1 (.cons (.idx (.nam 0) (.cst (.int 1))) (.cons (.nam 1) .nil))) (.cons (.cal false 1 (.cons (.idx (.nam 0) (.cst (.int 2))) (.cons (.nam 1) .nil))) .nil))))]⟩
/-- flipped_saying(saying, some): 0 saying, 1 some, 2 kind, 3 one, 4 other -/
def f3 : Fn := ⟨2, 5, false,
   [.unp [2, 3, 4] (.nam 0),
    .ifs (.cmp .ne (.nam 2) (.cst (.str [105, 115])))
     [.ret (.tup (.cons (.nam 2) (.cons (.cal false 3 (.cons (.nam 3) (.cons (.nam 1) .nil))) (.cons (.cal false 3 (.cons (.nam 4) (.cons (.nam 1) .nil))) .nil))))]
     [],
    .ifs (.cmp .inn (.nam 3) (.nam 1))
     [.ret (.tup (.cons (.cst (.str [105, 115])) (.cons (.nam 3) (.cons (.bin false .sub (.cst (.int 1)) (.nam 4)) .nil))))]
     [],
    .ret (.nam 0)]⟩
/-- flipped_talk(talk, some): 0 talk, 1 some, 2 hand, 3 says, 4 first, 5 second -/
def f4 : Fn := ⟨2, 6, false,
   [.ifs (.cmp .eq (.idx (.nam 0) (.cst (.int 0))) (.cst (.str [101, 110, 100])))
     [.ret (.nam 0)]
     [],
    .unp [2, 3, 4, 5] (.nam 0),
    .ret (.tup (.cons (.nam 2) (.cons (.cal false 1 (.cons (.nam 3) (.cons (.nam 1) .nil))) (.cons (.cal false 4 (.cons (.nam 4) (.cons (.nam 1) .nil))) (.cons (.cal false 4 (.cons (.nam 5) (.cons (.nam 1) .nil))) .nil)))))]⟩
/-- _law_begin(_law_script): 0 _law_script -/
def f5 : Fn := ⟨1, 1, false,
   [.ret (.lst true (.cons (.nam 0) (.cons (.cst (.int 0)) (.cons (.cst (.int 0)) .nil))))]⟩
/-- _law_some_of(_law_pen, _law_many): 0 _law_pen, 1 _law_many, 2 _law_at, 3 _law_cell, 4 _law_shaken, 5 _law_one -/
def f6 : Fn := ⟨2, 6, false,
   [.ifs (.cmp .gt (.idx (.nam 0) (.cst (.int 2))) (.cst (.int 0)))
     [.set 5 (.bin false .mod (.idx (.nam 0) (.cst (.int 2))) (.nam 1)),
      .sti (.nam 0) (.cst (.int 2)) (.bin false .fdiv (.idx (.nam 0) (.cst (.int 2))) (.nam 1)),
      .ret (.nam 5)]
     [],
    .set 2 (.idx (.nam 0) (.cst (.int 1))),
    .sti (.nam 0) (.cst (.int 1)) (.bin false .add (.nam 2) (.cst (.int 1))),
    .set 3 (.bin false .mul (.cst (.int 113)) (.nam 2)),
    .ifs (.cmp .gt (.blt false .len (.cons (.idx (.nam 0) (.cst (.int 0))) .nil)) (.cst (.int 0)))
     [.set 3 (.idx (.idx (.nam 0) (.cst (.int 0))) (.bin false .mod (.nam 2) (.blt false .len (.cons (.idx (.nam 0) (.cst (.int 0))) .nil))))]
     [],
    .ifs (.land (.cmp .lt (.nam 2) (.blt false .len (.cons (.idx (.nam 0) (.cst (.int 0))) .nil))) (.cmp .ge (.blt false .abs (.cons (.nam 3) .nil)) (.bin false .pow (.cst (.int 10)) (.cst (.int 18)))))
     [.sti (.nam 0) (.cst (.int 2)) (.bin false .fdiv (.blt false .abs (.cons (.nam 3) .nil)) (.nam 1)),
      .ret (.bin true .mod (.blt false .abs (.cons (.nam 3) .nil)) (.nam 1))]
     [],
    .set 4 (.bin false .mod (.bin false .mul (.bin false .add (.bin false .add (.bin false .mod (.nam 3) (.cst (.int 2147483069))) (.bin false .mul (.cst (.int 49999)) (.nam 2))) (.cst (.int 23))) (.cst (.int 62089911))) (.cst (.int 2147483647))),
    .set 4 (.bin false .mod (.bin false .add (.bin false .mul (.nam 4) (.bin false .add (.bin false .mod (.nam 4) (.cst (.int 60013))) (.cst (.int 5)))) (.nam 2)) (.cst (.int 2147483543))),
    .set 4 (.bin false .mod (.bin false .mul (.nam 4) (.bin false .add (.bin false .mod (.nam 4) (.cst (.int 30011))) (.cst (.int 11)))) (.cst (.int 2147483497))),
    .ret (.bin true .mod (.bin false .fdiv (.nam 4) (.cst (.int 64))) (.nam 1))]⟩
/-- _law_words_of(_law_places): 0 _law_places, 1 _law_found, 2 _law_k, 3 _law_word -/
def f7 : Fn := ⟨1, 4, false,
   [.set 1 (.lst false (.cons (.tup .nil) .nil)),
    .for_ (.one 2) (.rng (.nam 0))
     [.set 1 (.bin false .add (.lc false (.bin false .add (.tup (.cons (.cst (.int 0)) .nil)) (.nam 3)) (.one 3) (.val (.nam 1)) .none [3]) (.lc false (.bin false .add (.tup (.cons (.cst (.int 1)) .nil)) (.nam 3)) (.one 3) (.val (.nam 1)) .none [3]))],
    .ret (.nam 1)]⟩
/-- _law_case(_law_pen, _law_places): 0 _law_pen, 1 _law_places, 2 _law_rare, 3 _law_sorts, 4 _law_word, 5 _law_way, 6 _law_first, 7 _law_last -/
def f8 : Fn := ⟨2, 8, false,
   [.set 2 (.bin false .add (.cst (.int 2)) (.cal false 6 (.cons (.nam 0) (.cons (.cst (.int 3)) .nil)))),
    .set 3 (.lst true (.cons (.lst true .nil) (.cons (.lst true .nil) .nil))),
    .for_ (.one 4) (.val (.cal false 7 (.cons (.nam 1) .nil)))
     [.set 5 (.cal false 6 (.cons (.nam 0) (.cons (.nam 2) .nil))),
      .ifs (.cmp .lt (.nam 5) (.cst (.int 2)))
       [.exp (.mth false .append (.idx (.nam 3) (.nam 5)) (.cons (.nam 4) .nil))]
       []],
    .unp [6, 7] (.tup (.cons (.idx (.cal false 7 (.cons (.nam 1) .nil)) (.cst (.int 0))) (.cons (.idx (.cal false 7 (.cons (.nam 1) .nil)) (.neg (.cst (.int 1)))) .nil))),
    .ifs (.lor (.cmp .eq (.idx (.nam 3) (.cst (.int 0))) (.lst false .nil)) (.cmp .eq (.idx (.nam 3) (.cst (.int 1))) (.lst false .nil)))
     [.set 3 (.lst true (.cons (.lst true (.cons (.nam 7) .nil)) (.cons (.lst true (.cons (.nam 6) .nil)) .nil)))]
     [],
    .ret (.tup (.cons (.nam 1) (.cons (.blt false .tuple (.cons (.idx (.nam 3) (.cst (.int 0))) .nil)) (.cons (.blt false .tuple (.cons (.idx (.nam 3) (.cst (.int 1))) .nil)) .nil))))]⟩
/-- _law_parted(_law_pen, _law_many, _law_room): 0 _law_pen, 1 _law_many, 2 _law_room, 3 _law_most, 4 _law_low, 5 _law_high -/
def f9 : Fn := ⟨3, 6, false,
   [.set 3 (.bin false .shl (.cst (.int 1)) (.bin false .sub (.nam 2) (.cst (.int 1)))),
    .set 4 (.blt false .max (.cons (.cst (.int 1)) (.cons (.bin false .sub (.nam 1) (.nam 3)) .nil))),
    .set 5 (.blt false .min (.cons (.bin false .sub (.nam 1) (.cst (.int 1))) (.cons (.nam 3) .nil))),
    .ret (.idx (.lst true (.cons (.nam 4) (.cons (.nam 5) (.cons (.bin true .add (.nam 4) (.cal false 6 (.cons (.nam 0) (.cons (.bin false .add (.bin false .sub (.nam 5) (.nam 4)) (.cst (.int 1))) .nil)))) .nil)))) (.cal false 6 (.cons (.nam 0) (.cons (.cst (.int 3)) .nil))))]⟩
/-- _law_saying(_law_pen, _law_places, _law_many, _law_room): 0 _law_pen, 1 _law_places, 2 _law_many, 3 _law_room, 4 _law_here, 5 _law_one -/
def f10 : Fn := ⟨4, 6, false,
   [.ifs (.cmp .eq (.nam 2) (.cst (.int 1)))
     [.ret (.tup (.cons (.cst (.str [105, 115])) (.cons (.cal false 6 (.cons (.nam 0) (.cons (.nam 1) .nil))) (.cons (.cal false 6 (.cons (.nam 0) (.cons (.cst (.int 2)) .nil))) .nil))))]
     [],
    .set 4 (.cal false 9 (.cons (.nam 0) (.cons (.nam 2) (.cons (.nam 3) .nil)))),
    .set 5 (.cal false 10 (.cons (.nam 0) (.cons (.nam 1) (.cons (.nam 4) (.cons (.bin false .sub (.nam 3) (.cst (.int 1))) .nil))))),
    .ret (.tup (.cons (.idx (.lst false (.cons (.cst (.str [111, 114])) (.cons (.cst (.str [97, 110, 100])) .nil))) (.cal false 6 (.cons (.nam 0) (.cons (.cst (.int 2)) .nil)))) (.cons (.nam 5) (.cons (.cal false 10 (.cons (.nam 0) (.cons (.nam 1) (.cons (.bin false .sub (.nam 2) (.nam 4)) (.cons (.bin false .sub (.nam 3) (.cst (.int 1))) .nil))))) .nil))))]⟩
/-- _law_talk(_law_pen, _law_places, _law_many, _law_room): 0 _law_pen, 1 _law_places, 2 _law_many, 3 _law_room, 4 _law_here, 5 _law_way, 6 _law_says, 7 _law_one, 8 _law_hand, 9 _law_word -/
def f11 : Fn := ⟨4, 10, false,
   [.ifs (.cmp .eq (.nam 2) (.cst (.int 1)))
     [.ret (.tup (.cons (.cst (.str [101, 110, 100])) (.cons (.cal false 6 (.cons (.nam 0) (.cons (.nam 1) .nil))) .nil)))]
     [],
    .set 4 (.cal false 9 (.cons (.nam 0) (.cons (.nam 2) (.cons (.nam 3) .nil)))),
    .set 5 (.cal false 6 (.cons (.nam 0) (.cons (.cst (.int 6)) .nil))),
    .set 6 (.lc false (.nam 9) (.one 9) (.val (.cal false 7 (.cons (.nam 1) .nil))) (.some (.cmp .lt (.cal false 6 (.cons (.nam 0) (.cons (.cst (.int 5)) .nil))) (.nam 5))) [9]),
    .set 7 (.cal false 11 (.cons (.nam 0) (.cons (.nam 1) (.cons (.nam 4) (.cons (.bin false .sub (.nam 3) (.cst (.int 1))) .nil))))),
    .set 8 (.idx (.lst false (.cons (.cst (.str [121, 101, 115])) (.cons (.cst (.str [110, 111])) .nil))) (.cal false 6 (.cons (.nam 0) (.cons (.cst (.int 2)) .nil)))),
    .ret (.tup (.cons (.nam 8) (.cons (.blt false .tuple (.cons (.nam 6) .nil)) (.cons (.nam 7) (.cons (.cal false 11 (.cons (.nam 0) (.cons (.nam 1) (.cons (.bin false .sub (.nam 2) (.nam 4)) (.cons (.bin false .sub (.nam 3) (.cst (.int 1))) .nil))))) .nil)))))]⟩
/-- _law_other_bits(_law_word, _law_some): 0 _law_word, 1 _law_some, 2 _law_bits, 3 _law_place -/
def f12 : Fn := ⟨2, 4, false,
   [.set 2 (.blt true .list (.cons (.nam 0) .nil)),
    .for_ (.one 3) (.val (.nam 1))
     [.sti (.nam 2) (.nam 3) (.bin false .sub (.cst (.int 1)) (.idx (.nam 2) (.nam 3)))],
    .ret (.blt true .tuple (.cons (.nam 2) .nil))]⟩
/-- _law_rising(_law_words, _law_some): 0 _law_words, 1 _law_some, 2 _law_word -/
def f13 : Fn := ⟨2, 3, false,
   [.ret (.blt true .tuple (.cons (.blt false .sorted (.cons (.lc false (.cal false 12 (.cons (.nam 2) (.cons (.nam 1) .nil))) (.one 2) (.val (.nam 0)) .none [2]) .nil)) .nil))]⟩
/-- _law_due_saying(_law_saying_here, _law_some): 0 _law_saying_here, 1 _law_some -/
def f14 : Fn := ⟨2, 2, false,
   [.ifs (.cmp .ne (.idx (.nam 0) (.cst (.int 0))) (.cst (.str [105, 115])))
     [.ret (.tup (.cons (.idx (.nam 0) (.cst (.int 0))) (.cons (.cal false 14 (.cons (.idx (.nam 0) (.cst (.int 1))) (.cons (.nam 1) .nil))) (.cons (.cal false 14 (.cons (.idx (.nam 0) (.cst (.int 2))) (.cons (.nam 1) .nil))) .nil))))]
     [],
    .ret (.tup (.cons (.cst (.str [105, 115])) (.cons (.idx (.nam 0) (.cst (.int 1))) (.cons (.bin false .mod (.bin false .add (.idx (.nam 0) (.cst (.int 2))) (.blt false .int (.cons (.cmp .inn (.idx (.nam 0) (.cst (.int 1))) (.nam 1)) .nil))) (.cst (.int 2))) .nil))))]⟩
/-- _law_due_talk(_law_talk_here, _law_some): 0 _law_talk_here, 1 _law_some, 2 _law_one, 3 _law_other, 4 _law_part -/
def f15 : Fn := ⟨2, 5, false,
   [.ifs (.cmp .eq (.idx (.nam 0) (.cst (.int 0))) (.cst (.str [101, 110, 100])))
     [.ret (.tup (.cons (.cst (.str [101, 110, 100])) (.cons (.idx (.nam 0) (.cst (.int 1))) .nil)))]
     [],
    .unp [2, 3] (.lc false (.cal false 15 (.cons (.nam 4) (.cons (.nam 1) .nil))) (.one 4) (.val (.slc false (.nam 0) (.some (.cst (.int 2))) .none)) .none [4]),
    .ret (.tup (.cons (.idx (.nam 0) (.cst (.int 0))) (.cons (.cal false 13 (.cons (.idx (.nam 0) (.cst (.int 1))) (.cons (.nam 1) .nil))) (.cons (.nam 2) (.cons (.nam 3) .nil)))))]⟩
/-- _law_same(_law_found, _law_due): 0 _law_found, 1 _law_due -/
def f16 : Fn := ⟨2, 2, false,
   [.ret (.land (.cmp .eq (.nam 0) (.nam 1)) (.cmp .eq (.blt false .repr (.cons (.nam 0) .nil)) (.blt false .repr (.cons (.nam 1) .nil))))]⟩
/-- _law_right(_law_case_here, _law_saying_here, _law_talk_here, _law_some): 0 _law_case_here, 1 _law_saying_here, 2 _law_talk_here, 3 _law_some, 4 _law_due, 5 _law_again, 6 _law_back, 7 _law_places, 8 _law_yes, 9 _law_no, 10 _law_found -/
def f17 : Fn := ⟨4, 11, false,
   [.unp [7, 8, 9] (.nam 0),
    .set 4 (.lst true (.cons (.tup (.cons (.nam 7) (.cons (.cal false 13 (.cons (.nam 8) (.cons (.nam 3) .nil))) (.cons (.cal false 13 (.cons (.nam 9) (.cons (.nam 3) .nil))) .nil)))) (.cons (.cal false 14 (.cons (.nam 1) (.cons (.nam 3) .nil))) .nil))),
    .exp (.mth false .append (.nam 4) (.cons (.cal false 15 (.cons (.nam 2) (.cons (.nam 3) .nil))) .nil)),
    .for_ (.one 5) (.rng (.cst (.int 2)))
     [.set 10 (.lst false (.cons (.cal false 2 (.cons (.nam 0) (.cons (.nam 3) .nil))) (.cons (.cal false 3 (.cons (.nam 1) (.cons (.nam 3) .nil))) (.cons (.cal false 4 (.cons (.nam 2) (.cons (.nam 3) .nil))) .nil)))),
      .ifs (.lnot (.cal false 16 (.cons (.nam 10) (.cons (.nam 4) .nil))))
       [.ret (.cst (.bl false))]
       []],
    .set 6 (.lst false (.cons (.cal false 2 (.cons (.idx (.nam 10) (.cst (.int 0))) (.cons (.nam 3) .nil))) (.cons (.cal false 3 (.cons (.idx (.nam 10) (.cst (.int 1))) (.cons (.nam 3) .nil))) (.cons (.cal false 4 (.cons (.idx (.nam 10) (.cst (.int 2))) (.cons (.nam 3) .nil))) .nil)))),
    .ret (.cal true 16 (.cons (.nam 6) (.cons (.lst false (.cons (.nam 0) (.cons (.nam 1) (.cons (.nam 2) .nil)))) .nil)))]⟩
/-- law(_law_script): 0 _law_script, 1 _law_pen, 2 _law_turn, 3 _law_places, 4 _law_case_here, 5 _law_saying_here, 6 _law_talk_here, 7 _law_some, 8 _law_flips, 9 _law_place -/
def f18 : Fn := ⟨1, 10, false,
   [.set 1 (.cal true 5 (.cons (.nam 0) .nil)),
    .for_ (.one 2) (.rng (.cst (.int 2)))
     [.set 3 (.bin false .add (.cst (.int 1)) (.cal false 6 (.cons (.nam 1) (.cons (.cst (.int 5)) .nil)))),
      .set 4 (.cal false 8 (.cons (.nam 1) (.cons (.nam 3) .nil))),
      .set 5 (.cal false 10 (.cons (.nam 1) (.cons (.nam 3) (.cons (.bin false .add (.cst (.int 1)) (.cal false 6 (.cons (.nam 1) (.cons (.idx (.lst false (.cons (.cst (.int 9)) (.cons (.cst (.int 60)) .nil))) (.cal false 6 (.cons (.nam 1) (.cons (.cst (.int 2)) .nil)))) .nil)))) (.cons (.cst (.int 12)) .nil))))),
      .set 6 (.cal false 11 (.cons (.nam 1) (.cons (.nam 3) (.cons (.bin false .add (.cst (.int 1)) (.cal false 6 (.cons (.nam 1) (.cons (.idx (.lst false (.cons (.cst (.int 9)) (.cons (.cst (.int 60)) .nil))) (.cal false 6 (.cons (.nam 1) (.cons (.cst (.int 2)) .nil)))) .nil)))) (.cons (.cst (.int 12)) .nil))))),
      .set 7 (.blt false .tuple (.cons (.lc false (.nam 9) (.one 9) (.rng (.nam 3)) (.some (.cmp .eq (.cal false 6 (.cons (.nam 1) (.cons (.cst (.int 2)) .nil))) (.cst (.int 0)))) [9]) .nil)),
      .for_ (.one 8) (.val (.lst false (.cons (.nam 7) (.cons (.tup .nil) (.cons (.trg (.nam 3)) (.cons (.tup (.cons (.bin false .sub (.nam 3) (.cst (.int 1))) .nil)) .nil))))))
       [.ifs (.lnot (.cal false 17 (.cons (.nam 4) (.cons (.nam 5) (.cons (.nam 6) (.cons (.nam 8) .nil))))))
         [.ret (.cst (.bl false))]
         []]],
    .ret (.cst (.bl true))]⟩
def Fs : List Fn := [f0, f1, f2, f3, f4, f5, f6, f7, f8, f9, f10, f11, f12, f13, f14, f15, f16, f17, f18]
end Lw

namespace Lw
open MP
local macro_rules | `(tactic| trivial) => `(tactic| try simp -implicitDefEqProofs only [frL_nil, ↓frL_one, ↓frL_many, TupV_lst, ↓T_mth, walkN_dI, walkN_tup, walkN_lst, walkZ_tt, walkZ_tl, walkZ_lt, walkZ_ll, walkV_dI, len_dI, leave_dI, mk_dI, tuple_dI, isi_dI, TupV_dI, WP_ok, WP_nox, Nam_some, Opt_some, Opt_if, Ite_tt, Ite_ff, IntV_int, TupV_tup, setAll, BlV_bl, ↓Nxt_nx, ↓Nxt_rt, ↓Nxt_bk, ↓Nxt_ct, ↓Nxt_xc, ↓Bod_nx, ↓Bod_ct, ↓Bod_bk, ↓Bod_rt, ↓Bod_xc, ↓Ret_rt, ↓Ret_nx, ↓Ret_xc, ↓W_cst, ↓W_nam, ↓W_bin, ↓W_neg, ↓W_cmp, ↓W_land, ↓W_lor, ↓W_lnot, ↓W_ite, ↓W_nil, ↓W_cons, ↓W_tup, ↓W_lst, ↓W_dic, ↓W_idx, ↓W_ono, ↓W_oso, ↓W_slc, ↓W_cal, ↓W_blt, ↓W_mth, ↓W_val, ↓W_rng, ↓W_rng2, ↓W_zip, ↓W_enu, ↓W_glb, ↓W_lc, ↓W_lcc, ↓W_chn, ↓T_cmp, ↓T_chn, ↓T_land, ↓T_lor, ↓T_lnot, ↓T_ite, ↓T_cst, ↓T_nam, ↓T_idx, ↓T_cal, ↓T_blt, ↓T_bin, tru_bl, tru_int, B_nil, S_exp, S_set, S_sti, S_ifs, S_whl, S_for, S_ret, S_rtn, S_brk, S_cnt, S_unp, bop_add, bop_sub, bop_mul, bop_fdiv, bop_mod, bop_pow, bop_shl, bop_shr, bop_and, bop_or, bop_xor, bop_tup, bop_str, bop_smul, bop_rep, bop_cat, cop_eq_int, cop_ne_int, cop_lt_int, cop_le_int, cop_gt_int, cop_ge_int, cop_isB, cop_notB, mk_int', mk_bl', mk_non', mk_str', mk_tup', mk_ff, mk_tt, mk_ttD, bl_len_scr, bl_len_lst, bl_len_tup, bl_len_str, bl_abs, bl_max, bl_min, bl_int, bl_intb, bl_str, bl_tuple_lst, bl_tuple_tup, bl_list_lst, bl_list_tup, bl_all, bl_any, bl_sum, bl_isi, isi_int, isi_bl, isi_str, isi_tup, isi_lst, isi_non, isi_dic, omap_some, isTy, List.any_cons, List.any_nil, Bool.or_false, Bool.or_true, Bool.true_or, Bool.false_or, leave_int, leave_bl, leave_non, leave_str, walkV_lst, walkV_tup, wipeE, if_true, decide_true, decide_false, Int.cast_ofNat_Int, Int.natCast_zero, Int.natCast_one, Bool.false_eq_true, if_false, Bool.not_true, Bool.not_false, Nat.zero_le, true_and, and_true, ne_eq, not_false_eq_true, start, List.map_cons, List.map_nil, List.length_cons, List.length_nil, List.replicate, List.cons_append, List.nil_append, List.set_cons_zero, List.set_cons_succ, List.getElem?_cons_zero, List.getElem?_cons_succ, Nat.reduceSub, Nat.reduceAdd, Int.reduceEq, Int.reduceLE, Int.reduceLT, Int.reducePow, Int.reduceToNat, Nat.reduceLT, Nat.reduceLeDiff, Int.reduceNeg, Nat.reducePow, bindT_one, s_ii, s_ai, s_oi, s_aa, s_oa, slT, slL, ix_t0, ix_t1, ix_t2, ix_t3, ix_l0, ix_l1, ix_l2, melt_int, melt_bl, melt_str, melt_non, melt_tup, melt_lst, melt_dI, melt_scr, tru_str0, isN_cop, notN_cop, isNon, q_is_is, r_is_is, q_is_and, r_is_and, q_is_or, r_is_or, q_is_end, r_is_end, q_is_yes, r_is_yes, q_is_no, r_is_no, q_is_any, r_is_any, q_is_rising, r_is_rising, q_and_is, r_and_is, q_and_and, r_and_and, q_and_or, r_and_or, q_and_end, r_and_end, q_and_yes, r_and_yes, q_and_no, r_and_no, q_and_any, r_and_any, q_and_rising, r_and_rising, q_or_is, r_or_is, q_or_and, r_or_and, q_or_or, r_or_or, q_or_end, r_or_end, q_or_yes, r_or_yes, q_or_no, r_or_no, q_or_any, r_or_any, q_or_rising, r_or_rising, q_end_is, r_end_is, q_end_and, r_end_and, q_end_or, r_end_or, q_end_end, r_end_end, q_end_yes, r_end_yes, q_end_no, r_end_no, q_end_any, r_end_any, q_end_rising, r_end_rising, q_yes_is, r_yes_is, q_yes_and, r_yes_and, q_yes_or, r_yes_or, q_yes_end, r_yes_end, q_yes_yes, r_yes_yes, q_yes_no, r_yes_no, q_yes_any, r_yes_any, q_yes_rising, r_yes_rising, q_no_is, r_no_is, q_no_and, r_no_and, q_no_or, r_no_or, q_no_end, r_no_end, q_no_yes, r_no_yes, q_no_no, r_no_no, q_no_any, r_no_any, q_no_rising, r_no_rising, q_any_is, r_any_is, q_any_and, r_any_and, q_any_or, r_any_or, q_any_end, r_any_end, q_any_yes, r_any_yes, q_any_no, r_any_no, q_any_any, r_any_any, q_any_rising, r_any_rising, q_rising_is, r_rising_is, q_rising_and, r_rising_and, q_rising_or, r_rising_or, q_rising_end, r_rising_end, q_rising_yes, r_rising_yes, q_rising_no, r_rising_no, q_rising_any, r_rising_any, q_rising_rising, r_rising_rising])
local macro_rules | `(tactic| bv_omega) => `(tactic| first | omega | (unfold SL; omega) | exact ⟨R62_of (by omega) (by omega), R62_of (by omega) (by omega)⟩ | exact smallL (by omega) (by omega) | exact smallR (by omega) (by omega) | exact rcv_join | exact rcv_end | (simp only [List.length_cons, List.length_nil, List.length_append, List.length_map]; unfold SL; omega))
local macro_rules | `(tactic| infer_instance) => `(tactic| repeat (first | (simp -implicitDefEqProofs only [frL_nil, ↓frL_one, ↓frL_many, TupV_lst, ↓T_mth, walkN_dI, walkN_tup, walkN_lst, walkZ_tt, walkZ_tl, walkZ_lt, walkZ_ll, walkV_dI, len_dI, leave_dI, mk_dI, tuple_dI, isi_dI, TupV_dI, WP_ok, WP_nox, Nam_some, Opt_some, Opt_if, Ite_tt, Ite_ff, IntV_int, TupV_tup, setAll, BlV_bl, ↓Nxt_nx, ↓Nxt_rt, ↓Nxt_bk, ↓Nxt_ct, ↓Nxt_xc, ↓Bod_nx, ↓Bod_ct, ↓Bod_bk, ↓Bod_rt, ↓Bod_xc, ↓Ret_rt, ↓Ret_nx, ↓Ret_xc, ↓W_cst, ↓W_nam, ↓W_bin, ↓W_neg, ↓W_cmp, ↓W_land, ↓W_lor, ↓W_lnot, ↓W_ite, ↓W_nil, ↓W_cons, ↓W_tup, ↓W_lst, ↓W_dic, ↓W_idx, ↓W_ono, ↓W_oso, ↓W_slc, ↓W_cal, ↓W_blt, ↓W_mth, ↓W_val, ↓W_rng, ↓W_rng2, ↓W_zip, ↓W_enu, ↓W_glb, ↓W_lc, ↓W_lcc, ↓W_chn, ↓T_cmp, ↓T_chn, ↓T_land, ↓T_lor, ↓T_lnot, ↓T_ite, ↓T_cst, ↓T_nam, ↓T_idx, ↓T_cal, ↓T_blt, ↓T_bin, tru_bl, tru_int, B_nil, S_exp, S_set, S_sti, S_ifs, S_whl, S_for, S_ret, S_rtn, S_brk, S_cnt, S_unp, bop_add, bop_sub, bop_mul, bop_fdiv, bop_mod, bop_pow, bop_shl, bop_shr, bop_and, bop_or, bop_xor, bop_tup, bop_str, bop_smul, bop_rep, bop_cat, cop_eq_int, cop_ne_int, cop_lt_int, cop_le_int, cop_gt_int, cop_ge_int, cop_isB, cop_notB, mk_int', mk_bl', mk_non', mk_str', mk_tup', mk_ff, mk_tt, mk_ttD, bl_len_scr, bl_len_lst, bl_len_tup, bl_len_str, bl_abs, bl_max, bl_min, bl_int, bl_intb, bl_str, bl_tuple_lst, bl_tuple_tup, bl_list_lst, bl_list_tup, bl_all, bl_any, bl_sum, bl_isi, isi_int, isi_bl, isi_str, isi_tup, isi_lst, isi_non, isi_dic, omap_some, isTy, List.any_cons, List.any_nil, Bool.or_false, Bool.or_true, Bool.true_or, Bool.false_or, leave_int, leave_bl, leave_non, leave_str, walkV_lst, walkV_tup, wipeE, if_true, decide_true, decide_false, Int.cast_ofNat_Int, Int.natCast_zero, Int.natCast_one, Bool.false_eq_true, if_false, Bool.not_true, Bool.not_false, Nat.zero_le, true_and, and_true, ne_eq, not_false_eq_true, start, List.map_cons, List.map_nil, List.length_cons, List.length_nil, List.replicate, List.cons_append, List.nil_append, List.set_cons_zero, List.set_cons_succ, List.getElem?_cons_zero, List.getElem?_cons_succ, Nat.reduceSub, Nat.reduceAdd, Int.reduceEq, Int.reduceLE, Int.reduceLT, Int.reducePow, Int.reduceToNat, Nat.reduceLT, Nat.reduceLeDiff, Int.reduceNeg, Nat.reducePow, bindT_one, s_ii, s_ai, s_oi, s_aa, s_oa, slT, slL, ix_t0, ix_t1, ix_t2, ix_t3, ix_l0, ix_l1, ix_l2, melt_int, melt_bl, melt_str, melt_non, melt_tup, melt_lst, melt_dI, melt_scr, tru_str0, isN_cop, notN_cop, isNon, q_is_is, r_is_is, q_is_and, r_is_and, q_is_or, r_is_or, q_is_end, r_is_end, q_is_yes, r_is_yes, q_is_no, r_is_no, q_is_any, r_is_any, q_is_rising, r_is_rising, q_and_is, r_and_is, q_and_and, r_and_and, q_and_or, r_and_or, q_and_end, r_and_end, q_and_yes, r_and_yes, q_and_no, r_and_no, q_and_any, r_and_any, q_and_rising, r_and_rising, q_or_is, r_or_is, q_or_and, r_or_and, q_or_or, r_or_or, q_or_end, r_or_end, q_or_yes, r_or_yes, q_or_no, r_or_no, q_or_any, r_or_any, q_or_rising, r_or_rising, q_end_is, r_end_is, q_end_and, r_end_and, q_end_or, r_end_or, q_end_end, r_end_end, q_end_yes, r_end_yes, q_end_no, r_end_no, q_end_any, r_end_any, q_end_rising, r_end_rising, q_yes_is, r_yes_is, q_yes_and, r_yes_and, q_yes_or, r_yes_or, q_yes_end, r_yes_end, q_yes_yes, r_yes_yes, q_yes_no, r_yes_no, q_yes_any, r_yes_any, q_yes_rising, r_yes_rising, q_no_is, r_no_is, q_no_and, r_no_and, q_no_or, r_no_or, q_no_end, r_no_end, q_no_yes, r_no_yes, q_no_no, r_no_no, q_no_any, r_no_any, q_no_rising, r_no_rising, q_any_is, r_any_is, q_any_and, r_any_and, q_any_or, r_any_or, q_any_end, r_any_end, q_any_yes, r_any_yes, q_any_no, r_any_no, q_any_any, r_any_any, q_any_rising, r_any_rising, q_rising_is, r_rising_is, q_rising_and, r_rising_and, q_rising_or, r_rising_or, q_rising_end, r_rising_end, q_rising_yes, r_rising_yes, q_rising_no, r_rising_no, q_rising_any, r_rising_any, q_rising_rising, r_rising_rising, ↓B_cons]) | (with_reducible refine And.intro ?_ ?_; focus bv_omega)))
def depth : Nat := 65
/-! ### the pen -/
def GS (ns : List Int) (c : Cell) : Prop := ∃ i l : Int, c = .lst [.scr ns, .int i, .int l] ∧ 0 ≤ i
theorem draw_one {C : CT} {ns : List Int} {a : Nat} {many : Int} {h : Hea} {E : Xc → Hea → Prop} (p : Pn (GS ns) h a) (m0 : 0 < many) (m1 : many < 1073741824) :
    WP (exF C f6 [.ref a, .int many] h) (fun d h' => ∃ i : Int, d = .int i ∧ (0 ≤ i ∧ i < many ∧ (∃ c, h' = put h a c) ∧ Pn (GS ns) h' a)) E := by
  obtain ⟨_, g, i, l, rfl, hi⟩ := p
  have la : a < h.length := get_lt g
  have fin : ∀ (x : Int) (c : Cell), GS ns c → (∃ j : Int, D.int (x.fmod many) = .int j ∧ (0 ≤ j ∧ j < many ∧ (∃ c', trunc h.length (put h a c) = put h a c') ∧ Pn (GS ns) (trunc h.length (put h a c)) a)) := fun x c gc => by
    rw [trunc_put]
    exact ⟨_, rfl, Int.fmod_nonneg_of_pos _ m0, Int.fmod_lt_of_pos _ m0, ⟨_, rfl⟩, _, get_put_same la, gc⟩
  refine WP_exF rfl ?_
  simp only [f6]
  have i2 : ixH h (.ref a) (.int 2) = some (.int l) := ix_ref (k := 2) g rfl
  have i1 : ixH h (.ref a) (.int 1) = some (.int i) := ix_ref (k := 1) g rfl
  infer_instance
  rw [i2]
  infer_instance
  refine IteD (fun hc => ?_) (fun hc => ?_)
  · infer_instance
    rw [i2]
    infer_instance
    rw [i2]
    infer_instance
    rw [sti_ok (i := 2) (k := 2) g rfl below_int]
    infer_instance
    exact fin _ _ ⟨i, _, rfl, hi⟩
  · infer_instance
    rw [i1]
    infer_instance
    rw [sti_ok (i := 1) (k := 1) g rfl below_int]
    infer_instance
    generalize hh : put h a _ = h1
    have g1 : MP.get h1 a = some (.lst [.scr ns, .int (i + 1), .int l]) := by rw [← hh]; exact get_put_same la
    have i0 : ixH h1 (.ref a) (.int 0) = some (.scr ns) := ix_ref (k := 0) g1 rfl
    have tail : ∀ (c : Int), WP (exB C (f6.body.drop 6) [some (.ref a), some (.int many), some (.int i), some (.int c), none, none] h1) (Ret h.length (fun d h' => ∃ i : Int, d = .int i ∧ (0 ≤ i ∧ i < many ∧ (∃ c, h' = put h a c) ∧ Pn (GS ns) h' a)) E) (fun _ _ => False) := by
      intro c
      simp only [f6, List.drop]
      rw [← hh]
      infer_instance
      refine ⟨by rw [fm_small (by omega) (by omega)]; rfl, ?_⟩
      infer_instance
      refine ⟨by rw [fm_small (by omega) (by omega)]; rfl, ?_⟩
      infer_instance
      exact fin _ _ ⟨i + 1, l, rfl, by omega⟩
    rw [i0]
    infer_instance
    refine Ite.cut (fun ρ h' => (∃ c : Int, ρ = [some (.ref a), some (.int many), some (.int i), some (.int c), none, none]) ∧ h' = h1) (fun hc => ?_) (fun hc => ?_) ?_
    · have hc := of_decide_eq_true hc
      infer_instance
      rw [i0]
      infer_instance
      rw [i0]
      infer_instance
      have hm := Int.fmod_nonneg_of_pos i (show (0 : Int) < (ns.length : Nat) by omega)
      have hm2 := Int.fmod_lt_of_pos i (show (0 : Int) < (ns.length : Nat) by omega)
      rw [ix_scr (plc_int hm hm2), List.getElem?_eq_getElem (by omega)]
      infer_instance
      exact ⟨_, rfl⟩
    · infer_instance
      exact ⟨_, rfl⟩
    · rintro ρ h2 ⟨⟨c, rfl⟩, rfl⟩
      trivial
      rw [B_cons]
      trivial
      rw [i0]
      trivial
      refine IteD (fun hc => ?_) (fun hc => ?_)
      · trivial
        refine IteD (fun hc => ?_) (fun hc => ?_)
        · trivial
          rw [B_cons]
          trivial
          refine ⟨⟨by omega, by omega, by omega⟩, ?_⟩
          rw [sti_ok (i := 2) (k := 2) g1 rfl below_int, ← hh, put_put]
          infer_instance
          exact fin _ _ ⟨i + 1, _, rfl, by omega⟩
        · trivial
          exact tail _
      · trivial
        exact tail _
theorem C_draw {ns : List Int} {N : Nat} (hN : 1 ≤ N) : Drw (GS ns) (run Fs N) 6 := fun a many h p h0 h1 => by
  obtain ⟨k, rfl⟩ : ∃ k, N = k + 1 := ⟨N - 1, by omega⟩
  rw [run_at (f := f6) rfl]
  exact draw_one p h0 h1
theorem pen_at {ns : List Int} {N : Nat} (hN : 1 ≤ N) {h : Hea} : WP (run Fs N 5 [.scr ns] h) (fun d h' => d = .ref h.length ∧ Pn (GS ns) h' h.length ∧ ∃ c, h' = c :: h) NX := by
  obtain ⟨k, rfl⟩ : ∃ k, N = k + 1 := ⟨N - 1, by omega⟩
  rw [run_at (f := f5) rfl]
  refine WP_exF rfl ?_
  simp only [f5]
  infer_instance
  rw [leave_new (Nat.le_refl _) get_top rfl, trunc_cons (Nat.le_refl _), trunc_self]
  infer_instance
  exact ⟨⟨_, get_top, 0, 0, rfl, by omega⟩, _, rfl⟩
/-! ### all words -/
theorem bits_pre {i b n : Nat} (hb : b < 2) (hn : n < 2 ^ i) : bits (i + 1) (b * 2 ^ i + n) = (b : Int) :: bits i n := by
  unfold bits
  rw [List.range_succ_eq_map, List.map_cons, List.map_map]
  have e0 : (b * 2 ^ i + n) / 2 ^ (i + 1 - 1 - 0) % 2 = b := by
    rw [show i + 1 - 1 - 0 = i by omega, Nat.add_comm, Nat.add_mul_div_right _ _ (Nat.two_pow_pos i), Nat.div_eq_of_lt hn]
    omega
  rw [e0]
  congr 1
  refine List.map_congr_left fun j hj => ?_
  have hj := List.mem_range.mp hj
  show (((b * 2 ^ i + n) / 2 ^ (i + 1 - 1 - (j + 1)) % 2 : Nat) : Int) = ((n / 2 ^ (i - 1 - j) % 2 : Nat) : Int)
  rw [show i + 1 - 1 - (j + 1) = i - 1 - j by omega]
  have e : b * 2 ^ i = 2 ^ (i - 1 - j) * (2 * (b * 2 ^ j)) := by
    rw [show (2 : Nat) ^ i = 2 ^ (i - 1 - j) * 2 ^ (j + 1) by rw [← Nat.pow_add]; congr 1; omega, Nat.pow_succ]
    ac_rfl
  rw [e, Nat.add_comm, Nat.add_mul_div_left _ _ (Nat.two_pow_pos _)]
  congr 1
  omega
theorem row_pre {i b : Nat} (hb : b < 2) {L : List Nat} (hL : ∀ n ∈ L, n < 2 ^ i) : (L.map fun n => D.tup (.int (b : Int) :: (bits i n).map .int)) = wd (i + 1) (L.map (b * 2 ^ i + ·)) := by
  unfold wd
  rw [List.map_map]
  refine List.map_congr_left fun n hn => ?_
  show _ = dI (bits (i + 1) (b * 2 ^ i + n))
  rw [bits_pre hb (hL n hn)]
  rfl
theorem wdl_nb {p : Nat} {L : List Nat} : nb (.lst (wd p L)) = true := wd_nbs
theorem range_two {i : Nat} : (List.range (2 ^ i)).map (0 * 2 ^ i + ·) ++ (List.range (2 ^ i)).map (1 * 2 ^ i + ·) = List.range (2 ^ (i + 1)) := by
  rw [show 2 ^ (i + 1) = 2 ^ i + 2 ^ i by rw [Nat.pow_succ]; omega, List.range_add]
  congr 1
  · conv => rhs; rw [← List.map_id (List.range (2 ^ i))]
    refine List.map_congr_left fun n _ => ?_
    show 0 * 2 ^ i + n = n
    omega
  · refine List.map_congr_left fun n _ => ?_
    show 1 * 2 ^ i + n = 2 ^ i + n
    omega
theorem words_at {p N : Nat} (h5 : p ≤ 5) (hN : 1 ≤ N) {h : Hea} : run Fs N 7 [.int p] h = .ok (.lst (wordsD p)) h := by
  obtain ⟨k, rfl⟩ : ∃ k, N = k + 1 := ⟨N - 1, by omega⟩
  refine WP.eq ?_
  rw [run_at (f := f7) rfl]
  refine WP_exF rfl ?_
  simp only [f7]
  infer_instance
  refine frL_rng (fun i ρ h' => (∃ x y, ρ = [some (.int p), some (.lst (wd i (List.range (2 ^ i)))), x, y]) ∧ h' = h) ⟨⟨_, _, rfl⟩, rfl⟩ ?_ ?_
  · rintro i hi ρ h' ⟨⟨x, y, rfl⟩, rfl⟩
    have hz : 2 ^ i ≤ 2 ^ 5 := Nat.pow_le_pow_right (by omega) (by omega)
    have lL : (List.range (2 ^ i)).length = 2 ^ i := List.length_range
    have row : ∀ (b : Nat), b < 2 → ∀ (h : Hea) Q E, Q (wd (i + 1) ((List.range (2 ^ i)).map (b * 2 ^ i + ·))) h →
      WP (lcL (fun ρ h => (ev (run Fs k) (.bin false .add (.tup (.cons (.cst (.int (b : Int))) .nil)) (.nam 3)) ρ h).nox) (fun _ h => .ok true h) (.one 3) [some (.int p), some (.lst (wd i (List.range (2 ^ i)))), some (.int (0 + (i : Int))), none] none ((wd i (List.range (2 ^ i))).map .v) [] h) Q E := by
      intro b hb h Q E q
      refine W_lcmap (xs := List.range (2 ^ i)) (fun n => dI (bits i n)) (fun n => .tup (.int (b : Int) :: (bits i n).map .int)) (by unfold SL; omega) (fun n hn => ?_) (fun n hn => ?_) ?_
      · rw [show dI (bits i n) = .tup ((bits i n).map .int) from rfl]
        infer_instance
        rw [List.length_map, bits_len]
        infer_instance
        unfold SL; omega
      · refine below_nb (nb_tupA fun d hd => ?_)
        rcases List.mem_cons.mp hd with rfl | z
        · exact nb_int
        · obtain ⟨i, _, rfl⟩ := List.mem_map.mp z; exact nb_int
      · rw [row_pre hb (fun n hn => List.mem_range.mp hn)]; exact q
    infer_instance
    refine row 0 (by omega) _ _ _ ?_
    infer_instance
    refine row 1 (by omega) _ _ _ ?_
    infer_instance
    rw [wd_len, wd_len, List.length_map, List.length_map, lL]
    infer_instance
    rw [show wd (i + 1) ((List.range (2 ^ i)).map (0 * 2 ^ i + ·)) ++ wd (i + 1) ((List.range (2 ^ i)).map (1 * 2 ^ i + ·)) = wd (i + 1) ((List.range (2 ^ i)).map (0 * 2 ^ i + ·) ++ (List.range (2 ^ i)).map (1 * 2 ^ i + ·)) by unfold wd; rw [List.map_append], range_two]
    exact ⟨_, _, rfl⟩
  · rintro ρ h' ⟨⟨x, y, rfl⟩, rfl⟩
    rw [Int.sub_zero, Int.toNat_natCast]
    infer_instance
    rw [leave_nb wdl_nb, trunc_self]
    infer_instance
    exact congrArg D.lst wd_range
/-! ### flips -/
theorem srt_tab : (List.range 6).all (fun p => (List.range (2 ^ p)).all fun n => (List.range (2 ^ p)).all fun m => srtLe (dI (bits p n)) (dI (bits p m)) == decide (n ≤ m)) = true := by decide +kernel
theorem srt_le {p n m : Nat} (h5 : p ≤ 5) (hn : n < 2 ^ p) (hm : m < 2 ^ p) : srtLe (dI (bits p n)) (dI (bits p m)) = decide (n ≤ m) := by
  have h := List.all_eq_true.mp (List.all_eq_true.mp (List.all_eq_true.mp srt_tab p (List.mem_range.mpr (by omega))) n (List.mem_range.mpr hn)) m (List.mem_range.mpr hm)
  exact eq_of_beq h
def sw (p : Nat) (L : List Nat) : List D := (wd p L).mergeSort srtLe
theorem srt_eq {p : Nat} (h5 : p ≤ 5) {ds : List D} {Y : List Nat} (sY : Y.Sublist (List.range (2 ^ p))) (pm : ds.Perm (wd p Y)) : ds.mergeSort srtLe = wd p Y := by
  have lt : ∀ n ∈ Y, n < 2 ^ p := fun n hn => List.mem_range.mp (sY.subset hn)
  have T : PySem.W.TotalLe srtLe := PySem.W.sortLe_total (PyProof.Rows.listOrd PyProof.Rows.itemOrd) false fun b => PySem.W.keyToks (toPy b)
  have pm2 := (List.mergeSort_perm ds srtLe).trans pm
  refine List.Perm.eq_of_pairwise (le := fun a b => srtLe a b = true) ?_ ?_ ?_ pm2
  · intro a b ha hb h1 h2
    obtain ⟨n, hn, rfl⟩ := List.mem_map.mp (pm2.mem_iff.mp ha)
    obtain ⟨m, hm, rfl⟩ := List.mem_map.mp hb
    rw [srt_le h5 (lt n hn) (lt m hm), decide_eq_true_eq] at h1
    rw [srt_le h5 (lt m hm) (lt n hn), decide_eq_true_eq] at h2
    rw [show n = m by omega]
  · exact List.pairwise_mergeSort T.trans (fun a b => by rw [Bool.or_eq_true]; exact T.total a b) ds
  · unfold wd
    rw [List.pairwise_map]
    have q : Y.Pairwise (· < ·) := (List.pairwise_lt_range).sublist sY
    refine q.imp_of_mem fun {a b} ha hb hab => ?_
    rw [srt_le h5 (lt a ha) (lt b hb), decide_eq_true_eq]
    omega
theorem sorted_sw {h : Hea} {p : Nat} {L : List Nat} (h1 : 1 ≤ p) (hL : ∀ n ∈ L, n < 2 ^ p) : bltH .sorted h [.lst (wd p L)] = some (.lst (sw p L)) := by
  obtain ⟨L', eL, _⟩ := sorted_wd (h := h) h1 hL (show Hd h p (.lst (wd p L)) L from .inl rfl)
  have e : bltH .sorted h [.lst (wd p L)] = if sortOk (wd p L) then some (.lst ((wd p L).mergeSort srtLe)) else none := rfl
  rw [e] at eL ⊢
  split at eL
  · rename_i q; rw [if_pos q]; rfl
  · cases eL
theorem sw_wd {p : Nat} {L : List Nat} (h1 : 1 ≤ p) (hL : ∀ n ∈ L, n < 2 ^ p) : ∃ L', sw p L = wd p L' ∧ L'.length = L.length ∧ (∀ n ∈ L', n < 2 ^ p) ∧ (wd p L').Perm (wd p L) := by
  obtain ⟨L', eL, a, b, c⟩ := sorted_wd (h := []) h1 hL (show Hd [] p (.lst (wd p L)) L from .inl rfl)
  rw [sorted_sw h1 hL] at eL
  injection eL with eL
  injection eL with eL
  exact ⟨L', eL, a, b, c⟩
def km (p : Nat) (F : List Nat) : Nat := F.foldl (fun k i => k ^^^ 2 ^ (p - 1 - i)) 0
theorem km_app {p i : Nat} {F : List Nat} : km p (F ++ [i]) = km p F ^^^ 2 ^ (p - 1 - i) := by unfold km; rw [List.foldl_append]; rfl
theorem km_lt0 {p : Nat} : ∀ {F : List Nat} {k : Nat}, (∀ i ∈ F, i < p) → k < 2 ^ p → F.foldl (fun k i => k ^^^ 2 ^ (p - 1 - i)) k < 2 ^ p
  | [], k, _, hk => hk
  | i :: F, k, hF, hk => by
    rw [List.foldl_cons]
    have := hF i List.mem_cons_self
    exact km_lt0 (fun j hj => hF j (List.mem_cons_of_mem _ hj)) (Nat.xor_lt_two_pow hk (Nat.pow_lt_pow_right (by omega) (by omega)))
theorem km_lt {p : Nat} {F : List Nat} (hF : ∀ i ∈ F, i < p) : km p F < 2 ^ p := km_lt0 hF (Nat.two_pow_pos p)
theorem km_test0 {p i : Nat} (hi : i < p) : ∀ {F : List Nat} {k : Nat}, F.Nodup → (∀ i ∈ F, i < p) → (F.foldl (fun k i => k ^^^ 2 ^ (p - 1 - i)) k).testBit (p - 1 - i) = (k.testBit (p - 1 - i) ^^ decide (i ∈ F))
  | [], k, _, _ => by simp
  | j :: F, k, nd, hF => by
    have hj := hF j List.mem_cons_self
    have nd' := List.nodup_cons.mp nd
    rw [List.foldl_cons, km_test0 hi nd'.2 (fun x hx => hF x (List.mem_cons_of_mem _ hx)), Nat.testBit_xor, Nat.testBit_two_pow]
    by_cases e : j = i
    · subst e
      have : decide (j ∈ F) = false := decide_eq_false nd'.1
      rw [this]
      simp
    · have : ¬(p - 1 - j = p - 1 - i) := by omega
      have e' : ¬ i = j := fun z => e z.symm
      simp [this, e']
theorem km_test {p i : Nat} {F : List Nat} (hi : i < p) (nd : F.Nodup) (hF : ∀ i ∈ F, i < p) : (km p F).testBit (p - 1 - i) = decide (i ∈ F) := by
  unfold km
  rw [km_test0 hi nd hF]
  simp
def fl (p : Nat) (F : List Nat) (n : Nat) : Nat := n ^^^ km p F
theorem fl_lt {p n : Nat} {F : List Nat} (hF : ∀ i ∈ F, i < p) (hn : n < 2 ^ p) : fl p F n < 2 ^ p := Nat.xor_lt_two_pow hn (km_lt hF)
theorem fl_fl {p n : Nat} {F : List Nat} : fl p F (fl p F n) = n := by unfold fl; rw [Nat.xor_assoc, Nat.xor_self, Nat.xor_zero]
theorem bt_tb {p n i : Nat} (hi : i < p) : bt p n i = if n.testBit (p - 1 - i) then 1 else 0 := by
  unfold bt bits
  rw [List.getElem?_map, List.getElem?_range hi, Option.map_some, Option.getD_some, Nat.testBit_eq_decide_div_mod_eq]
  have : n / 2 ^ (p - 1 - i) % 2 = 0 ∨ n / 2 ^ (p - 1 - i) % 2 = 1 := by omega
  rcases this with z | z <;> rw [z] <;> rfl
theorem bt_xor {p n k i : Nat} (hi : i < p) : bt p (n ^^^ k) i = if k.testBit (p - 1 - i) then 1 - bt p n i else bt p n i := by
  rw [bt_tb hi, bt_tb hi, Nat.testBit_xor]
  cases n.testBit (p - 1 - i) <;> cases k.testBit (p - 1 - i) <;> rfl
theorem bits_get {p n i : Nat} (hi : i < p) : (bits p n)[i]'(by rw [bits_len]; exact hi) = bt p n i := by
  unfold bt
  rw [List.getElem?_eq_getElem (by rw [bits_len]; exact hi)]; rfl
theorem flip_idx {p n : Nat} {F : List Nat} (nd : F.Nodup) (hF : ∀ i ∈ F, i < p) : ((bits p n).mapIdx fun i x => D.int (if i ∈ F then 1 - x else x)) = (bits p (fl p F n)).map .int := by
  refine List.ext_getElem (by rw [List.length_mapIdx, List.length_map, bits_len, bits_len]) fun i h1 h2 => ?_
  have hi : i < p := by rw [List.length_mapIdx, bits_len] at h1; exact h1
  rw [List.getElem_mapIdx, List.getElem_map, bits_get hi, bits_get hi]
  unfold fl
  rw [bt_xor hi, km_test hi nd hF]
  simp
theorem flip_set {p n i : Nat} (hi : i < p) : ((bits p n).map D.int).set i (.int (1 - bt p n i)) = (bits p (n ^^^ 2 ^ (p - 1 - i))).map .int := by
  refine List.ext_getElem (by rw [List.length_set, List.length_map, List.length_map, bits_len, bits_len]) fun j h1 h2 => ?_
  have hj : j < p := by rw [List.length_map, bits_len] at h2; exact h2
  rw [List.getElem_set, List.getElem_map, List.getElem_map, bits_get hj, bits_get hj, bt_xor hj, Nat.testBit_two_pow]
  by_cases e : i = j
  · subst e; simp
  · have : ¬(p - 1 - i = p - 1 - j) := by omega
    simp [e, this]
noncomputable def flD (p : Nat) (F : List Nat) (d : D) : D := by
  classical
  exact if h : ∃ n, n < 2 ^ p ∧ d = dI (bits p n) then dI (bits p (fl p F h.choose)) else d
theorem flD_bits {p n : Nat} {F : List Nat} (hn : n < 2 ^ p) : flD p F (dI (bits p n)) = dI (bits p (fl p F n)) := by
  have h : ∃ m, m < 2 ^ p ∧ dI (bits p n) = dI (bits p m) := ⟨n, hn, rfl⟩
  unfold flD
  rw [dif_pos h]
  have := h.choose_spec
  rw [← bitsN_inj hn this.1 (dI_inj this.2)]
theorem wd_fl {p : Nat} {F L : List Nat} (hL : ∀ n ∈ L, n < 2 ^ p) : wd p (L.map (fl p F)) = (wd p L).map (flD p F) := by
  unfold wd
  rw [List.map_map, List.map_map]
  exact List.map_congr_left fun n hn => (flD_bits (hL n hn)).symm
/-- flipped and flipped again -/
theorem sw_back {p : Nat} (h1 : 1 ≤ p) (h5 : p ≤ 5) {F Y L' : List Nat} (hF : ∀ i ∈ F, i < p) (sY : Y.Sublist (List.range (2 ^ p))) (hL : ∀ n ∈ L', n < 2 ^ p) (pm : (wd p L').Perm (wd p (Y.map (fl p F)))) : sw p (L'.map (fl p F)) = wd p Y := by
  have lt : ∀ n ∈ Y, n < 2 ^ p := fun n hn => List.mem_range.mp (sY.subset hn)
  refine srt_eq h5 sY ?_
  rw [wd_fl hL]
  refine (pm.map _).trans ?_
  rw [← wd_fl (fun n hn => by obtain ⟨m, hm, rfl⟩ := List.mem_map.mp hn; exact fl_lt hF (lt m hm)), List.map_map]
  rw [show (Y.map (fl p F ∘ fl p F)) = Y by
    conv => rhs; rw [← List.map_id Y]
    exact List.map_congr_left fun n _ => fl_fl]
/-! ### walks of flips -/
def FI (F : List Nat) : List Int := F.map fun (i : Nat) => (i : Int)
structure Fl (p : Nat) (F : List Nat) : Prop where
  nd : F.Nodup
  lt : ∀ i ∈ F, i < p
theorem mem_FI {F : List Nat} {i : Int} (h0 : 0 ≤ i) : (i ∈ FI F) ↔ i.toNat ∈ F := by
  unfold FI
  rw [List.mem_map]
  constructor
  · rintro ⟨a, ha, rfl⟩; rw [Int.toNat_natCast]; exact ha
  · intro h; exact ⟨_, h, by omega⟩
theorem inn_F {h : Hea} {F : List Nat} {i : Int} (h0 : 0 ≤ i) : cop .inn h (.int i) (dI (FI F)) = some (.bl (decide (i.toNat ∈ F))) := by
  rw [show dI (FI F) = .tup ((FI F).map .int) from rfl, inn_intsT]
  congr 2
  rw [decide_eq_decide]
  exact mem_FI h0
theorem word_at {p n : Nat} {F : List Nat} (h5 : p ≤ 5) (f : Fl p F) {N : Nat} (hN : 1 ≤ N) {h : Hea} : run Fs N 0 [dI (bits p n), dI (FI F)] h = .ok (dI (bits p (fl p F n))) h := by
  obtain ⟨k, rfl⟩ : ∃ k, N = k + 1 := ⟨N - 1, by omega⟩
  refine WP.eq ?_
  rw [run_at (f := f0) rfl]
  refine WP_exF rfl ?_
  simp only [f0]
  infer_instance
  refine W_lcenu (xs := bits p n) D.int (fun i x => D.int (if i ∈ F then 1 - x else x)) (by rw [bits_len]; unfold SL; omega) (fun i hi => ?_) (fun _ _ => below_int) ?_
  · infer_instance
    rw [inn_F (by omega), Int.toNat_natCast]
    by_cases hc : i ∈ F
    · rw [decide_eq_true hc]
      infer_instance
      rw [if_pos hc]
    · rw [decide_eq_false hc]
      infer_instance
      rw [if_neg hc]
  rw [flip_idx f.nd f.lt]
  infer_instance
  rw [show D.tup ((bits p (fl p F n)).map .int) = dI (bits p (fl p F n)) from rfl, leave_dI, trunc_self]
  infer_instance
theorem other_at {p n : Nat} {F : List Nat} (h5 : p ≤ 5) (f : Fl p F) {N : Nat} (hN : 1 ≤ N) {h : Hea} : run Fs N 12 [dI (bits p n), dI (FI F)] h = .ok (dI (bits p (fl p F n))) h := by
  obtain ⟨k, rfl⟩ : ∃ k, N = k + 1 := ⟨N - 1, by omega⟩
  refine WP.eq ?_
  rw [run_at (f := f12) rfl]
  refine WP_exF rfl ?_
  simp only [f12]
  infer_instance
  rw [show ∀ h : Hea, bltH .list h [dI (bits p n)] = some (.lst ((bits p n).map .int)) from fun _ => rfl]
  infer_instance
  refine frL_val (fun j ρ h' => (∃ z1, ρ = [some (dI (bits p n)), some (dI (FI F)), some (.ref h.length), z1]) ∧ h' = .lst ((bits p (n ^^^ km p (F.take j))).map .int) :: h) ⟨(by (repeat apply Exists.intro); rfl), by simp [km]⟩ ?_ ?_
  · rintro j hj ρ h' ⟨⟨_, rfl⟩, rfl⟩
    have hj' : j < F.length := by unfold FI at hj; rw [List.length_map, List.length_map] at hj; exact hj
    have fi := f.lt _ (List.getElem_mem hj')
    rw [show ((FI F).map D.int)[j] = .int ((F[j] : Nat) : Int) by simp [FI]]
    have tk : km p (F.take (j + 1)) = km p (F.take j) ^^^ 2 ^ (p - 1 - F[j]) := by
      rw [List.take_add_one, List.getElem?_eq_getElem hj', Option.toList_some, km_app]
    rw [tk, ← Nat.xor_assoc]
    generalize n ^^^ km p (F.take j) = m
    generalize F[j] = i at fi
    have pl : plc ((bits p m).map D.int).length (i : Int) = some i := plc_pos (by rw [List.length_map, bits_len]; exact fi)
    infer_instance
    rw [ix_ref get_top pl, List.getElem?_map, List.getElem?_eq_getElem (by rw [bits_len]; exact fi), bits_get fi]
    infer_instance
    rw [sti_ok get_top pl below_int, put_top, flip_set fi]
    infer_instance
    exact (by (repeat apply Exists.intro); rfl)
  · rintro ρ h' ⟨⟨_, rfl⟩, rfl⟩
    have ft : F.take ((FI F).map D.int).length = F := by unfold FI; rw [List.length_map, List.length_map, List.take_length]
    rw [ft]
    infer_instance
    rw [show ∀ xs : List D, bltH .tuple (.lst xs :: h) [.ref h.length] = some (.tup xs) from fun xs => by
      show (seqV (.lst xs :: h) (.ref h.length)).map D.tup = _
      rw [show seqV (.lst xs :: h) (.ref h.length) = some xs by
        show (match MP.get (.lst xs :: h) h.length with | some (.lst ds) => some ds | _ => none) = _
        rw [get_top]]
      rfl]
    infer_instance
    rw [show D.tup ((bits p (n ^^^ km p F)).map .int) = dI (bits p (fl p F n)) from rfl, leave_dI, trunc_cons (Nat.le_refl _), trunc_self]
    infer_instance
theorem sw_nbs {p : Nat} {L : List Nat} : nbs (sw p L) = true := nbs_all fun d hd => by
  have := (List.mergeSort_perm (wd p L) srtLe).mem_iff.mp hd
  obtain ⟨n, _, rfl⟩ := List.mem_map.mp this
  exact nb_dI
theorem words_fl {p : Nat} {F Y : List Nat} (h1 : 1 ≤ p) (h5 : p ≤ 5) (f : Fl p F) (hY : Lt p Y) {N : Nat} (hN : 2 ≤ N) {h : Hea} : run Fs N 1 [.tup (wd p Y), dI (FI F)] h = .ok (.tup (sw p (Y.map (fl p F)))) h := by
  obtain ⟨k, rfl⟩ : ∃ k, N = k + 1 := ⟨N - 1, by omega⟩
  have ll := hY.le
  refine WP.eq ?_
  rw [run_at (f := f1) rfl]
  refine WP_exF rfl ?_
  simp only [f1]
  infer_instance
  refine W_lcmap (xs := Y) (fun n => dI (bits p n)) (fun n => dI (bits p (fl p F n))) (by unfold SL; omega) (fun n hn => ?_) (fun _ _ => below_dI) ?_
  · infer_instance
    rw [word_at h5 f (by omega), melt_nb nb_dI]
    infer_instance
  rw [show (Y.map fun n => dI (bits p (fl p F n))) = wd p (Y.map (fl p F)) by unfold wd; rw [List.map_map]; rfl]
  infer_instance
  rw [sorted_sw h1 fun n hn => by obtain ⟨m, hm, rfl⟩ := List.mem_map.mp hn; exact fl_lt f.lt (hY.lt m hm)]
  infer_instance
  rw [leave_nb (show nb (.tup (sw p (Y.map (fl p F)))) = true from sw_nbs), trunc_self]
  infer_instance
theorem rising_at {p : Nat} {F Y : List Nat} (h1 : 1 ≤ p) (h5 : p ≤ 5) (f : Fl p F) (hY : Lt p Y) {N : Nat} (hN : 2 ≤ N) {h : Hea} : run Fs N 13 [.tup (wd p Y), dI (FI F)] h = .ok (.tup (sw p (Y.map (fl p F)))) h := by
  obtain ⟨k, rfl⟩ : ∃ k, N = k + 1 := ⟨N - 1, by omega⟩
  have ll := hY.le
  refine WP.eq ?_
  rw [run_at (f := f13) rfl]
  refine WP_exF rfl ?_
  simp only [f13]
  infer_instance
  refine W_lcmap (xs := Y) (fun n => dI (bits p n)) (fun n => dI (bits p (fl p F n))) (by unfold SL; omega) (fun n hn => ?_) (fun _ _ => below_dI) ?_
  · infer_instance
    rw [other_at h5 f (by omega), melt_nb nb_dI]
    infer_instance
  rw [show (Y.map fun n => dI (bits p (fl p F n))) = wd p (Y.map (fl p F)) by unfold wd; rw [List.map_map]; rfl]
  infer_instance
  rw [sorted_sw h1 fun n hn => by obtain ⟨m, hm, rfl⟩ := List.mem_map.mp hn; exact fl_lt f.lt (hY.lt m hm)]
  infer_instance
  rw [leave_nb (show nb (.tup (sw p (Y.map (fl p F)))) = true from sw_nbs), trunc_self]
  infer_instance
def fC (p : Nat) (F Y M : List Nat) : D := .tup [.int p, .tup (sw p (Y.map (fl p F))), .tup (sw p (M.map (fl p F)))]
theorem sw_nb {p : Nat} {L : List Nat} : nb (.tup (sw p L)) = true := sw_nbs
theorem fC_nb {p : Nat} {F Y M : List Nat} : nb (fC p F Y M) = true := nb_cons3 nb_int sw_nb sw_nb
theorem case_fl {p : Nat} {F Y M : List Nat} (h1 : 1 ≤ p) (h5 : p ≤ 5) (f : Fl p F) (hY : Lt p Y) (hM : Lt p M) {N : Nat} (hN : 3 ≤ N) {h : Hea} : run Fs N 2 [casD p Y M, dI (FI F)] h = .ok (fC p F Y M) h := by
  obtain ⟨k, rfl⟩ : ∃ k, N = k + 1 := ⟨N - 1, by omega⟩
  refine WP.eq ?_
  rw [run_at (f := f2) rfl]
  refine WP_exF rfl ?_
  simp only [f2]
  unfold casD
  infer_instance
  rw [words_fl h1 h5 f hY (by omega), melt_nb sw_nb]
  infer_instance
  rw [words_fl h1 h5 f hM (by omega), melt_nb sw_nb]
  infer_instance
  rw [show D.tup [.int (p : Int), .tup (sw p (Y.map (fl p F))), .tup (sw p (M.map (fl p F)))] = fC p F Y M from rfl, leave_nb fC_nb, trunc_self]
  infer_instance
def flS (F : List Nat) : Sg → Sg
  | .is i b => if i.toNat ∈ F then .is i (1 - b) else .is i b
  | .jn o x y => .jn o (flS F x) (flS F y)
theorem flS_ok {p : Int} {F : List Nat} : ∀ {s : Sg} {k : Nat}, s.ok p [0, 1] k → (flS F s).ok p [0, 1] k
  | .is i b, k, h => by
    unfold Sg.ok at h
    unfold flS
    have hb : b = 0 ∨ b = 1 := by have := h.2.2; simp at this; exact this
    split
    · unfold Sg.ok
      exact ⟨h.1, h.2.1, by rcases hb with rfl | rfl <;> simp⟩
    · unfold Sg.ok
      exact h
  | .jn o x y, 0, h => h.elim
  | .jn o x y, k + 1, h => ⟨flS_ok h.1, flS_ok h.2⟩
theorem flS_flS {F : List Nat} : ∀ {s : Sg}, flS F (flS F s) = s
  | .is i b => by
    by_cases hc : i.toNat ∈ F
    · show flS F (if i.toNat ∈ F then .is i (1 - b) else .is i b) = _
      rw [if_pos hc]
      show (if i.toNat ∈ F then Sg.is i (1 - (1 - b)) else .is i (1 - b)) = _
      rw [if_pos hc, show 1 - (1 - b) = b by omega]
    · show flS F (if i.toNat ∈ F then .is i (1 - b) else .is i b) = _
      rw [if_neg hc]
      show (if i.toNat ∈ F then Sg.is i (1 - b) else .is i b) = _
      rw [if_neg hc]
  | .jn o x y => by
    show Sg.jn o (flS F (flS F x)) (flS F (flS F y)) = _
    rw [flS_flS, flS_flS]
theorem flS_lv {F : List Nat} : ∀ {s : Sg}, (flS F s).lv = s.lv
  | .is i b => by unfold flS; split <;> rfl
  | .jn o x y => by
    show (flS F x).lv + (flS F y).lv = x.lv + y.lv
    rw [flS_lv, flS_lv]
theorem sgN {o : Bool} {h : Hea} : cop .ne h (.str (if o = true then [97, 110, 100] else [111, 114])) (.str [105, 115]) = some (.bl true) := by cases o <;> exact ne_s_ff (by decide) (by decide) (by decide)
theorem isN0 {h : Hea} : cop .ne h (.str [105, 115]) (.str [105, 115]) = some (.bl false) := ne_s_tt (by decide)
theorem saying_fl {p : Nat} {F : List Nat} : ∀ {s : Sg} {k N : Nat}, s.ok p [0, 1] k → k + 1 ≤ N → ∀ h : Hea, run Fs N 3 [s.d, dI (FI F)] h = .ok (flS F s).d h := by
  intro s
  induction s with
  | is i b =>
    intro k N hk hN h
    obtain ⟨m, rfl⟩ : ∃ m, N = m + 1 := ⟨N - 1, by omega⟩
    unfold Sg.ok at hk
    refine WP.eq ?_
    rw [run_at (f := f3) rfl]
    refine WP_exF rfl ?_
    simp only [f3, Sg.d]
    infer_instance
    rw [inn_F hk.1]
    by_cases hc : i.toNat ∈ F
    · rw [decide_eq_true hc, show flS F (.is i b) = .is i (1 - b) from if_pos hc]
      infer_instance
      rw [show D.tup [.str [105, 115], .int i, .int (1 - b)] = (Sg.is i (1 - b)).d from rfl, leave_nb Sg.nb, trunc_self]
      infer_instance
    · rw [decide_eq_false hc, show flS F (.is i b) = .is i b from if_neg hc]
      infer_instance
      rw [show D.tup [.str [105, 115], .int i, .int b] = (Sg.is i b).d from rfl, leave_nb Sg.nb, trunc_self]
      infer_instance
  | jn o x y ix iy =>
    intro k N hk hN h
    obtain ⟨m, rfl⟩ : ∃ m, N = m + 1 := ⟨N - 1, by omega⟩
    cases k with
    | zero => exact hk.elim
    | succ k =>
      have hk : x.ok p [0, 1] k ∧ y.ok p [0, 1] k := hk
      refine WP.eq ?_
      rw [run_at (f := f3) rfl]
      refine WP_exF rfl ?_
      simp only [f3, Sg.d]
      infer_instance
      rw [sgN]
      infer_instance
      rw [ix hk.1 (by omega), melt_nb Sg.nb]
      infer_instance
      rw [iy hk.2 (by omega), melt_nb Sg.nb]
      infer_instance
      rw [show D.tup [.str (if o = true then [97, 110, 100] else [111, 114]), (flS F x).d, (flS F y).d] = (flS F (.jn o x y)).d from rfl, leave_nb Sg.nb, trunc_self]
      infer_instance
theorem saying_due {p : Nat} {F : List Nat} : ∀ {s : Sg} {k N : Nat}, s.ok p [0, 1] k → k + 1 ≤ N → ∀ h : Hea, run Fs N 14 [s.d, dI (FI F)] h = .ok (flS F s).d h := by
  intro s
  induction s with
  | is i b =>
    intro k N hk hN h
    obtain ⟨m, rfl⟩ : ∃ m, N = m + 1 := ⟨N - 1, by omega⟩
    unfold Sg.ok at hk
    have hb : b = 0 ∨ b = 1 := by have := hk.2.2; simp at this; exact this
    refine WP.eq ?_
    rw [run_at (f := f14) rfl]
    refine WP_exF rfl ?_
    simp only [f14, Sg.d]
    infer_instance
    rw [inn_F hk.1]
    by_cases hc : i.toNat ∈ F
    · rw [decide_eq_true hc, show flS F (.is i b) = .is i (1 - b) from if_pos hc]
      infer_instance
      rw [show ((b + 1).fmod 2) = 1 - b by rcases hb with rfl | rfl <;> rfl, show D.tup [.str [105, 115], .int i, .int (1 - b)] = (Sg.is i (1 - b)).d from rfl, leave_nb Sg.nb, trunc_self]
      infer_instance
    · rw [decide_eq_false hc, show flS F (.is i b) = .is i b from if_neg hc]
      infer_instance
      rw [show ((b + 0).fmod 2) = b by rcases hb with rfl | rfl <;> rfl, show D.tup [.str [105, 115], .int i, .int b] = (Sg.is i b).d from rfl, leave_nb Sg.nb, trunc_self]
      infer_instance
  | jn o x y ix iy =>
    intro k N hk hN h
    obtain ⟨m, rfl⟩ : ∃ m, N = m + 1 := ⟨N - 1, by omega⟩
    cases k with
    | zero => exact hk.elim
    | succ k =>
      have hk : x.ok p [0, 1] k ∧ y.ok p [0, 1] k := hk
      refine WP.eq ?_
      rw [run_at (f := f14) rfl]
      refine WP_exF rfl ?_
      simp only [f14, Sg.d]
      infer_instance
      rw [sgN]
      infer_instance
      rw [ix hk.1 (by omega), melt_nb Sg.nb]
      infer_instance
      rw [iy hk.2 (by omega), melt_nb Sg.nb]
      infer_instance
      rw [show D.tup [.str (if o = true then [97, 110, 100] else [111, 114]), (flS F x).d, (flS F y).d] = (flS F (.jn o x y)).d from rfl, leave_nb Sg.nb, trunc_self]
      infer_instance
/-! ### talks flipped -/
def fT (p : Nat) (F : List Nat) : Tk → D
  | .en i => .tup [.str [101, 110, 100], .int i]
  | .hd y L a b => .tup [.str (if y = true then [121, 101, 115] else [110, 111]), .tup (sw p (L.map (fl p F))), fT p F a, fT p F b]
theorem fl_ws {p : Nat} {F L : List Nat} (f : Fl p F) (w : Ws p L) : Ws p (L.map (fl p F)) := by
  refine ⟨?_, fun n hn => by obtain ⟨m, hm, rfl⟩ := List.mem_map.mp hn; exact fl_lt f.lt (w.lt m hm)⟩
  have nd := w.nd
  unfold List.Nodup at nd ⊢
  rw [List.pairwise_map]
  exact nd.imp fun {a b} hab z => hab (by rw [← fl_fl (p := p) (F := F) (n := a), z, fl_fl])
theorem ok_gd {p : Nat} : ∀ {t : Tk} {k : Nat}, t.ok p k → t.gd p k := fun h => h.gd
/-- a talk flipped is a talk, and flipped again it is the first -/
theorem fT_tk {p : Nat} (h1 : 1 ≤ p) (h5 : p ≤ 5) {F : List Nat} (f : Fl p F) : ∀ {t : Tk} {k : Nat}, t.ok p k → ∃ u : Tk, fT p F t = u.d p ∧ u.gd p k ∧ u.lv = t.lv ∧ fT p F u = t.d p
  | .en i, k, h => ⟨.en i, rfl, h.gd, rfl, rfl⟩
  | .hd y L a b, 0, h => h.elim
  | .hd y L a b, k + 1, h => by
    unfold Tk.ok at h
    obtain ⟨sL, ha, hb⟩ := h
    have w : Ws p L := .of sL
    obtain ⟨L', e, l, lt, pm⟩ := sw_wd h1 (fl_ws f w).lt
    obtain ⟨u, e1, g1, v1, b1⟩ := fT_tk h1 h5 f ha
    obtain ⟨v, e2, g2, v2, b2⟩ := fT_tk h1 h5 f hb
    refine ⟨.hd y L' u v, ?_, ⟨(ws_perm (fl_ws f w) lt pm).1, g1, g2⟩, ?_, ?_⟩
    · unfold fT Tk.d
      rw [e, e1, e2]
    · show u.lv + v.lv = a.lv + b.lv
      rw [v1, v2]
    · unfold fT Tk.d
      rw [sw_back h1 h5 f.lt sL lt pm, b1, b2]
theorem fT_nb {p : Nat} {F : List Nat} : ∀ {t : Tk}, nb (fT p F t) = true
  | .en i => (Tk.en i).nb (p := p)
  | .hd y L a b => nb_tupA fun d hd => by
    simp only [List.mem_cons, List.not_mem_nil, or_false] at hd
    rcases hd with rfl | rfl | rfl | rfl
    · exact nb_yn
    · exact sw_nb
    · exact fT_nb
    · exact fT_nb
theorem talk_fl {p : Nat} {F : List Nat} (h1 : 1 ≤ p) (h5 : p ≤ 5) (f : Fl p F) : ∀ {t : Tk} {k N : Nat}, t.gd p k → k + 3 ≤ N → ∀ h : Hea, run Fs N 4 [t.d p, dI (FI F)] h = .ok (fT p F t) h := by
  intro t
  induction t with
  | en i =>
    intro k N hg hN h
    obtain ⟨m, rfl⟩ : ∃ m, N = m + 1 := ⟨N - 1, by omega⟩
    refine WP.eq ?_
    rw [run_at (f := f4) rfl]
    refine WP_exF rfl ?_
    simp only [f4, Tk.d]
    infer_instance
    rw [show D.tup [.str [101, 110, 100], .int i] = fT p F (.en i) from rfl, leave_nb fT_nb, trunc_self]
    infer_instance
  | hd q L a b ia ib =>
    intro k N hg hN h
    obtain ⟨m, rfl⟩ : ∃ m, N = m + 1 := ⟨N - 1, by omega⟩
    cases k with
    | zero => exact hg.elim
    | succ k =>
      unfold Tk.gd at hg
      refine WP.eq ?_
      rw [run_at (f := f4) rfl]
      refine WP_exF rfl ?_
      simp only [f4, Tk.d]
      infer_instance
      rw [yn_endE]
      infer_instance
      rw [words_fl h1 h5 f (hg.1.l h5) (by omega), melt_nb sw_nb]
      infer_instance
      rw [ia hg.2.1 (by omega), melt_nb fT_nb]
      infer_instance
      rw [ib hg.2.2 (by omega), melt_nb fT_nb]
      infer_instance
      rw [show D.tup [.str (if q = true then [121, 101, 115] else [110, 111]), .tup (sw p (L.map (fl p F))), fT p F a, fT p F b] = fT p F (.hd q L a b) from rfl, leave_nb fT_nb, trunc_self]
      infer_instance
theorem lc_two {el : Env → Hea → R D} {v : Nat} {ρ : Env} {h : Hea} {x y X Y : D} {Q : List D → Hea → Prop} {E : Xc → Hea → Prop} (hx : WP (el (ρ.set v (some x)) h) (fun d h' => d = X ∧ h' = h) NX) (hy : WP (el (ρ.set v (some y)) h) (fun d h' => d = Y ∧ h' = h) NX) (bX : below h.length X = true) (bY : below h.length Y = true) (q : Q [X, Y] h) :
    WP (lcL el (fun _ h => .ok true h) (.one v) ρ none ([x, y].map .v) [] h) Q E := by
  refine lcL_ind (fun i acc h' => acc = [X, Y].take i ∧ h' = h) ⟨rfl, rfl⟩ ?_ ?_
  · rintro i hi acc h' ⟨rfl, rfl⟩
    have : i = 0 ∨ i = 1 := by simp at hi; omega
    rcases this with rfl | rfl
    · refine ⟨x, _, rfl, rfl, ?_⟩
      rw [WP_ok, if_pos rfl]
      refine hx.nx fun d h' q => ?_
      obtain ⟨rfl, rfl⟩ := q
      exact ⟨⟨by unfold SL; simp, bX⟩, rfl, rfl⟩
    · refine ⟨y, _, rfl, rfl, ?_⟩
      rw [WP_ok, if_pos rfl]
      refine hy.nx fun d h' q => ?_
      obtain ⟨rfl, rfl⟩ := q
      exact ⟨⟨by unfold SL; simp, bY⟩, rfl, rfl⟩
  · rintro acc h' ⟨rfl, rfl⟩
    exact ⟨rfl, q⟩
theorem talk_due {p : Nat} {F : List Nat} (h1 : 1 ≤ p) (h5 : p ≤ 5) (f : Fl p F) : ∀ {t : Tk} {k N : Nat}, t.gd p k → k + 3 ≤ N → ∀ h : Hea, run Fs N 15 [t.d p, dI (FI F)] h = .ok (fT p F t) h := by
  intro t
  induction t with
  | en i =>
    intro k N hg hN h
    obtain ⟨m, rfl⟩ : ∃ m, N = m + 1 := ⟨N - 1, by omega⟩
    refine WP.eq ?_
    rw [run_at (f := f15) rfl]
    refine WP_exF rfl ?_
    simp only [f15, Tk.d]
    infer_instance
    rw [show D.tup [.str [101, 110, 100], .int i] = fT p F (.en i) from rfl, leave_nb fT_nb, trunc_self]
    infer_instance
  | hd q L a b ia ib =>
    intro k N hg hN h
    obtain ⟨m, rfl⟩ : ∃ m, N = m + 1 := ⟨N - 1, by omega⟩
    cases k with
    | zero => exact hg.elim
    | succ k =>
      unfold Tk.gd at hg
      refine WP.eq ?_
      rw [run_at (f := f15) rfl]
      refine WP_exF rfl ?_
      simp only [f15, Tk.d]
      infer_instance
      rw [yn_endE]
      infer_instance
      rw [show cut [D.str (if q = true then [121, 101, 115] else [110, 111]), .tup (wd p L), a.d p, b.d p] (some 2) none = [a.d p, b.d p] from rfl]
      refine lc_two (X := fT p F a) (Y := fT p F b) ?_ ?_ (below_nb fT_nb) (below_nb fT_nb) ?_
      · infer_instance
        rw [ia hg.2.1 (by omega), melt_nb fT_nb]
        infer_instance
      · infer_instance
        rw [ib hg.2.2 (by omega), melt_nb fT_nb]
        infer_instance
      infer_instance
      rw [rising_at h1 h5 f (hg.1.l h5) (by omega), melt_nb sw_nb]
      infer_instance
      rw [show D.tup [.str (if q = true then [121, 101, 115] else [110, 111]), .tup (sw p (L.map (fl p F))), fT p F a, fT p F b] = fT p F (.hd q L a b) from rfl, leave_nb fT_nb, trunc_self]
      infer_instance
theorem low_sg {p : Int} (hp : p ≤ 300) : ∀ {s : Sg} {k : Nat}, s.ok p [0, 1] k → low s.d = true
  | .is i b, k, h => by
    unfold Sg.ok at h
    have hb : b = 0 ∨ b = 1 := by simpa using h.2.2
    exact low_tup fun d hd => by
      simp only [List.mem_cons, List.not_mem_nil, or_false] at hd
      rcases hd with rfl | rfl | rfl
      · decide +kernel
      · exact low_int (by omega) (by omega)
      · exact low_int (by omega) (by omega)
  | .jn o x y, 0, h => by unfold Sg.ok at h; exact h.elim
  | .jn o x y, k + 1, h => by
    unfold Sg.ok at h
    exact low_tup fun d hd => by
      simp only [List.mem_cons, List.not_mem_nil, or_false] at hd
      rcases hd with rfl | rfl | rfl
      · cases o <;> decide +kernel
      · exact low_sg hp h.1
      · exact low_sg hp h.2
theorem wg_sg {p : Int} (hp : p ≤ 300) : ∀ {s : Sg} {k : Nat}, s.ok p [0, 1] k → wg s.d + 10 ≤ 50 * s.lv
  | .is i b, k, h => by
    unfold Sg.ok at h
    have hb : b = 0 ∨ b = 1 := by simpa using h.2.2
    have := wg_int (i := i) (by omega) (by omega)
    have := wg_bit hb
    simp only [Sg.d, Sg.lv]
    rw [wg_tup, wgs_cons, wgs_cons, wgs_cons, wgs_nil, wg_str]
    simp only [List.length_cons, List.length_nil]
    omega
  | .jn o x y, 0, h => by unfold Sg.ok at h; exact h.elim
  | .jn o x y, k + 1, h => by
    unfold Sg.ok at h
    have h1 := wg_sg hp h.1
    have h2 := wg_sg hp h.2
    have h4 : wg (.str (if o = true then [97, 110, 100] else [111, 114])) ≤ 3 := by rw [wg_str]; cases o <;> decide
    simp only [Sg.d, Sg.lv]
    rw [wg_tup, wgs_cons, wgs_cons, wgs_cons, wgs_nil]
    omega
theorem ref3 {h : Hea} {x y z : D} {i : Int} (h0 : 0 ≤ i) (h1 : i < 3) : ∃ v, ixH (.lst [x, y, z] :: h) (.ref h.length) (.int i) = some v ∧ (v = x ∨ v = y ∨ v = z) := by
  have : i = 0 ∨ i = 1 ∨ i = 2 := by omega
  rcases this with rfl | rfl | rfl
  · exact ⟨x, ix_ref (k := 0) get_top rfl, .inl rfl⟩
  · exact ⟨y, ix_ref (k := 1) get_top rfl, .inr (.inl rfl)⟩
  · exact ⟨z, ix_ref (k := 2) get_top rfl, .inr (.inr rfl)⟩
/-! ### what is drawn -/
theorem half_at {ns : List Int} {a r : Nat} {many : Int} (hr : r ≤ 12) (m1 : 2 ≤ many) (m2 : many ≤ ((2 ^ (r + 1) : Nat) : Int)) {N : Nat} (hN : 2 ≤ N) {h : Hea} (pen : Pn (GS ns) h a) :
    WP (run Fs N 9 [.ref a, .int many, .int (r + 1 : Nat)] h) (fun d h' => ∃ f : Int, d = .int f ∧ (1 ≤ f ∧ f ≤ many - 1 ∧ f ≤ ((2 ^ r : Nat) : Int) ∧ many - f ≤ ((2 ^ r : Nat) : Int) ∧ (∃ c, h' = put h a c) ∧ Pn (GS ns) h' a)) NX := by
  obtain ⟨k, rfl⟩ : ∃ k, N = k + 1 := ⟨N - 1, by omega⟩
  have P : Drw (GS ns) (run Fs k) 6 := C_draw (by omega)
  rw [run_at (f := f9) rfl]
  refine WP_exF rfl ?_
  simp only [f9]
  have ep : ((2 ^ (r + 1) : Nat) : Int) = 2 * ((2 ^ r : Nat) : Int) := by rw [Nat.pow_succ]; push_cast; omega
  have hpow : ((2 ^ r : Nat) : Int) ≤ 1048576 := by
    have : 2 ^ r ≤ 2 ^ 20 := Nat.pow_le_pow_right (by omega) (by omega)
    omega
  have hpos : 0 < ((2 ^ r : Nat) : Int) := by
    have : 0 < 2 ^ r := Nat.two_pow_pos r
    omega
  have et : (((r + 1 : Nat) : Int) - 1).toNat = r := by omega
  rw [ep] at m2
  generalize hNN : ((2 ^ r : Nat) : Int) = M at m2 hpow hpos
  infer_instance
  rw [et, pow2_cast, hNN]
  generalize hlo : (if many - M > 1 then many - M else 1) = lo
  generalize hhi : (if M < many - 1 then M else many - 1) = hi
  have l1 : 1 ≤ lo := by rw [← hlo]; split <;> omega
  have l2 : many - M ≤ lo := by rw [← hlo]; split <;> omega
  have l3 : lo ≤ hi := by rw [← hlo, ← hhi]; split <;> split <;> omega
  have l4 : hi ≤ M := by rw [← hhi]; split <;> omega
  have l5 : hi ≤ many - 1 := by rw [← hhi]; split <;> omega
  infer_instance
  refine P.call pen (by omega) (by omega) fun w h3 w0 w1 e1 p1 => ?_
  infer_instance
  refine P.callU p1 (by omega) (by omega) fun j h4 j0 j1 e2 p2 => ?_
  have e3 := puts2 e1 e2
  have l6 := puts2_len e2
  infer_instance
  obtain ⟨v, ev, hv⟩ := ref3 (h := h4) (x := .int lo) (y := .int hi) (z := .int (lo + w)) j0 j1
  rw [l6] at ev
  rw [ev]
  have te : trunc h.length (.lst [.int lo, .int hi, .int (lo + w)] :: h4) = h4 := by rw [trunc_cons (by rw [puts2_len e3]; exact Nat.le_refl _), trunc_eq (puts2_len e3)]
  rcases hv with rfl | rfl | rfl
  · infer_instance
    rw [te]
    exact ⟨_, rfl, by omega, by omega, by omega, by omega, e3, p2⟩
  · infer_instance
    rw [te]
    exact ⟨_, rfl, by omega, by omega, by omega, by omega, e3, p2⟩
  · infer_instance
    rw [te]
    exact ⟨_, rfl, by omega, by omega, by omega, by omega, e3, p2⟩
theorem saying_at {ns : List Int} {p a : Nat} (h1 : 1 ≤ p) (h5 : p ≤ 5) : ∀ (r : Nat), r ≤ 12 → ∀ (N : Nat) (many : Int) (h : Hea), r + 3 ≤ N → 1 ≤ many → many ≤ ((2 ^ r : Nat) : Int) → Pn (GS ns) h a →
    WP (run Fs N 10 [.ref a, .int p, .int many, .int r] h) (fun d h' => ∃ s : Sg, d = s.d ∧ ((s.ok p [0, 1] r ∧ (s.lv : Int) = many) ∧ ((∃ c, h' = put h a c) ∧ Pn (GS ns) h' a))) NX := by
  have leaf : ∀ (r N : Nat) (h : Hea), 2 ≤ N → Pn (GS ns) h a → WP (run Fs N 10 [.ref a, .int p, .int 1, .int r] h) (fun d h' => ∃ s : Sg, d = s.d ∧ ((s.ok p [0, 1] r ∧ (s.lv : Int) = 1) ∧ ((∃ c, h' = put h a c) ∧ Pn (GS ns) h' a))) NX := by
    intro r N h hN pen
    obtain ⟨k, rfl⟩ : ∃ k, N = k + 1 := ⟨N - 1, by omega⟩
    have P : Drw (GS ns) (run Fs k) 6 := C_draw (by omega)
    rw [run_at (f := f10) rfl]
    refine WP_exF rfl ?_
    simp only [f10]
    infer_instance
    refine P.call pen (by omega) (by omega) fun i h3 i0 i1 e1 p1 => ?_
    infer_instance
    refine P.call p1 (by omega) (by omega) fun j h4 j0 j1 e2 p2 => ?_
    have e3 := puts2 e1 e2
    infer_instance
    rw [show D.tup [.str [105, 115], .int i, .int j] = (Sg.is i j).d from rfl, leave_nb Sg.nb, trunc_eq (puts2_len e3)]
    infer_instance
    exact ⟨.is i j, rfl, ⟨by unfold Sg.ok; exact ⟨i0, i1, by simp; omega⟩, rfl⟩, e3, p2⟩
  intro r
  induction r with
  | zero =>
    intro hr N many h hN m1 m2 pen
    have : many = 1 := by simp at m2; omega
    subst this
    exact leaf 0 N h (by omega) pen
  | succ r ih =>
    intro hr N many h hN m1 m2 pen
    by_cases hm : many = 1
    · subst hm
      exact leaf (r + 1) N h (by omega) pen
    obtain ⟨k, rfl⟩ : ∃ k, N = k + 1 := ⟨N - 1, by omega⟩
    have P : Drw (GS ns) (run Fs k) 6 := C_draw (by omega)
    have er : ((r + 1 : Nat) : Int) - 1 = (r : Int) := by omega
    have ih := ih (by omega)
    have hmf : decide (many = 1) = false := decide_eq_false hm
    rw [run_at (f := f10) rfl]
    refine WP_exF rfl ?_
    simp only [f10]
    infer_instance
    rw [hmf]
    infer_instance
    refine W_meltV ((half_at (r := r) (by omega) (by omega) m2 (N := k) (by omega) pen).nx fun d h' q => ?_)
    obtain ⟨f, rfl, f1, f2, f3, f4, e1, p1⟩ := q
    refine ⟨(fun a z => nomatch z), ?_⟩
    infer_instance
    rw [er]
    refine W_meltV ((ih k f h' (by omega) (by omega) (by omega) p1).nx fun d h2 q => ?_)
    obtain ⟨s, rfl, ⟨hs, ls⟩, e2, p2⟩ := q
    have e3 := puts2 e1 e2
    refine ⟨nb_ref Sg.nb, ?_⟩
    infer_instance
    refine P.call p2 (by omega) (by omega) fun j h3 j0 j1 e4 p3 => ?_
    have e5 := puts2 e3 e4
    infer_instance
    obtain ⟨o, eo⟩ : ∃ o : Bool, ixH h3 (.lst [.str [111, 114], .str [97, 110, 100]]) (.int j) = some (.str (if o = true then [97, 110, 100] else [111, 114])) := by
      have : j = 0 ∨ j = 1 := by omega
      rcases this with rfl | rfl
      · exact ⟨false, ix_lst (k := 0) rfl⟩
      · exact ⟨true, ix_lst (k := 1) rfl⟩
    rw [eo]
    infer_instance
    rw [er]
    refine W_meltV ((ih k (many - f) h3 (by omega) (by omega) (by omega) p3).nx fun d h4 q => ?_)
    obtain ⟨t, rfl, ⟨ht, lt⟩, e6, p4⟩ := q
    have e7 := puts2 e5 e6
    refine ⟨nb_ref Sg.nb, ?_⟩
    infer_instance
    rw [show D.tup [.str (if o = true then [97, 110, 100] else [111, 114]), s.d, t.d] = (Sg.jn o s t).d from rfl, leave_nb Sg.nb, trunc_eq (puts2_len e7)]
    infer_instance
    refine ⟨.jn o s t, rfl, ⟨⟨hs, ht⟩, ?_⟩, e7, p4⟩
    show ((s.lv + t.lv : Nat) : Int) = many
    omega
theorem talk_at {ns : List Int} {p a : Nat} (h1 : 1 ≤ p) (h5 : p ≤ 5) : ∀ (r : Nat), r ≤ 12 → ∀ (N : Nat) (many : Int) (h : Hea), r + 3 ≤ N → 1 ≤ many → many ≤ ((2 ^ r : Nat) : Int) → Pn (GS ns) h a →
    WP (run Fs N 11 [.ref a, .int p, .int many, .int r] h) (fun d h' => ∃ t : Tk, d = t.d p ∧ ((t.ok p r ∧ (t.lv : Int) = many) ∧ ((∃ c, h' = put h a c) ∧ Pn (GS ns) h' a))) NX := by
  have hz := two5 h5
  have leaf : ∀ (r N : Nat) (h : Hea), 2 ≤ N → Pn (GS ns) h a → WP (run Fs N 11 [.ref a, .int p, .int 1, .int r] h) (fun d h' => ∃ t : Tk, d = t.d p ∧ ((t.ok p r ∧ (t.lv : Int) = 1) ∧ ((∃ c, h' = put h a c) ∧ Pn (GS ns) h' a))) NX := by
    intro r N h hN pen
    obtain ⟨k, rfl⟩ : ∃ k, N = k + 1 := ⟨N - 1, by omega⟩
    have P : Drw (GS ns) (run Fs k) 6 := C_draw (by omega)
    rw [run_at (f := f11) rfl]
    refine WP_exF rfl ?_
    simp only [f11]
    infer_instance
    refine P.call pen (by omega) (by omega) fun i h3 i0 i1 e1 p1 => ?_
    infer_instance
    rw [show D.tup [.str [101, 110, 100], .int i] = (Tk.en i).d p from rfl, leave_tk, trunc_eq (puts2_len e1)]
    infer_instance
    exact ⟨.en i, rfl, ⟨by unfold Tk.ok; exact ⟨i0, i1⟩, rfl⟩, e1, p1⟩
  intro r
  induction r with
  | zero =>
    intro hr N many h hN m1 m2 pen
    have : many = 1 := by simp at m2; omega
    subst this
    exact leaf 0 N h (by omega) pen
  | succ r ih =>
    intro hr N many h hN m1 m2 pen
    by_cases hm : many = 1
    · subst hm
      exact leaf (r + 1) N h (by omega) pen
    obtain ⟨k, rfl⟩ : ∃ k, N = k + 1 := ⟨N - 1, by omega⟩
    have P : Drw (GS ns) (run Fs k) 6 := C_draw (by omega)
    have er : ((r + 1 : Nat) : Int) - 1 = (r : Int) := by omega
    have ih := ih (by omega)
    have hmf : decide (many = 1) = false := decide_eq_false hm
    rw [run_at (f := f11) rfl]
    refine WP_exF rfl ?_
    simp only [f11]
    infer_instance
    rw [hmf]
    infer_instance
    refine W_meltV ((half_at (r := r) (by omega) (by omega) m2 (N := k) (by omega) pen).nx fun d h' q => ?_)
    obtain ⟨f, rfl, f1, f2, f3, f4, e1, p1⟩ := q
    refine ⟨(fun a z => nomatch z), ?_⟩
    infer_instance
    refine P.call p1 (by omega) (by omega) fun w h1' w0 w1 e1' p1' => ?_
    have ee := puts2 e1 e1'
    infer_instance
    rw [words_at h5 (by omega), melt_nb (show nb (.lst (wordsD p)) = true from wdl_nb (L := List.range (2 ^ p)))]
    infer_instance
    refine lcL_ind (fun i acc h' => ∃ L : List Nat, acc = wd p L ∧ L.Sublist (List.range i) ∧ (∃ c, h' = put h a c) ∧ Pn (GS ns) h' a) ⟨[], rfl, by simp, ee, p1'⟩ ?_ ?_
    · rintro i hi acc h' ⟨L, rfl, sL, e2, p2⟩
      have hi' : i < 2 ^ p := by rw [List.length_map, wordsD_len] at hi; exact hi
      have sl := sL.length_le
      rw [List.length_range] at sl
      refine ⟨dI (bits p i), _, by simp [wordsD, itm], rfl, ?_⟩
      infer_instance
      refine P.call p2 (by omega) (by omega) fun z h3 z0 z1 e3 p3 => ?_
      have e4 := puts2 e2 e3
      infer_instance
      split
      · infer_instance
        refine ⟨⟨by rw [wd_len]; unfold SL; omega, below_dI⟩, L ++ [i], by unfold wd; rw [List.map_append]; rfl, ?_, e4, p3⟩
        rw [List.range_succ]
        exact sL.append (List.Sublist.refl _)
      · refine ⟨L, rfl, ?_, e4, p3⟩
        rw [List.range_succ]
        exact sL.trans (List.sublist_append_left _ _)
    rintro acc h2 ⟨L, rfl, sL, e2, p2⟩
    rw [List.length_map, wordsD_len] at sL
    refine ⟨rfl, ?_⟩
    infer_instance
    rw [er]
    refine W_meltV ((ih k f h2 (by omega) (by omega) (by omega) p2).nx fun d h3 q => ?_)
    obtain ⟨s, rfl, ⟨hs, ls⟩, e4, p4⟩ := q
    have e5 := puts2 e2 e4
    refine ⟨nb_ref s.nb, ?_⟩
    infer_instance
    refine P.call p4 (by omega) (by omega) fun j h4 j0 j1 e6 p6 => ?_
    have e7 := puts2 e5 e6
    infer_instance
    obtain ⟨y, ey⟩ := hand2 (h := h4) j0 j1
    rw [ey]
    infer_instance
    rw [er]
    refine W_meltV ((ih k (many - f) h4 (by omega) (by omega) (by omega) p6).nx fun d h5 q => ?_)
    obtain ⟨t, rfl, ⟨ht, lt⟩, e8, p8⟩ := q
    have e9 := puts2 e7 e8
    refine ⟨nb_ref t.nb, ?_⟩
    infer_instance
    rw [show D.tup [.str (if y = true then [121, 101, 115] else [110, 111]), .tup (wd p L), s.d p, t.d p] = (Tk.hd y L s t).d p from rfl, leave_tk, trunc_eq (puts2_len e9)]
    infer_instance
    refine ⟨.hd y L s t, rfl, ⟨⟨sL, hs, ht⟩, ?_⟩, e9, p8⟩
    show ((s.lv + t.lv : Nat) : Int) = many
    omega
theorem wds_dep {p : Nat} {L : List Nat} : PySem.PyData.depthAll (toPys (wd p L)) ≤ 30 := Nat.le_trans wd_dep (by omega)
theorem case_at {ns : List Int} {p a N : Nat} (h1 : 1 ≤ p) (h5 : p ≤ 5) (hN : 2 ≤ N) {h : Hea} (pen : Pn (GS ns) h a) :
    WP (run Fs N 8 [.ref a, .int p] h) (fun d h' => ∃ Y M, d = casD p Y M ∧ (Y.Sublist (List.range (2 ^ p)) ∧ M.Sublist (List.range (2 ^ p)) ∧ (∃ c, h' = put h a c) ∧ Pn (GS ns) h' a)) NX := by
  obtain ⟨k, rfl⟩ : ∃ k, N = k + 1 := ⟨N - 1, by omega⟩
  have P : Drw (GS ns) (run Fs k) 6 := C_draw (by omega)
  have hz := two5 h5
  have hp := Nat.two_pow_pos p
  have W := fun h : Hea => words_at (N := k) (h := h) h5 (by omega)
  have wnb : nb (.lst (wordsD p)) = true := wdl_nb (L := List.range (2 ^ p))
  rw [run_at (f := f8) rfl]
  refine WP_exF rfl ?_
  simp only [f8]
  infer_instance
  refine P.call pen (by omega) (by omega) fun w h2 w0 w1 e2 p2 => ?_
  trivial
  rw [B_cons]
  trivial
  rw [B_cons]
  trivial
  refine ⟨by bv_omega, ?_⟩
  rw [W, melt_nb wnb]
  trivial
  refine frL_val (fun i ρ h' => (∃ z1 z2 z3 z4, ρ = [some (.ref a), some (.int p), some (.int (2 + w)), some (.ref (h2.length + 1 + 1)), z1, z2, z3, z4]) ∧ ∃ A B hh, h' = c2 h2.length p A B hh ∧ A.Sublist (List.range i) ∧ B.Sublist (List.range i) ∧ (∃ c, hh = put h a c) ∧ Pn (GS ns) hh a) ⟨(by (repeat apply Exists.intro); rfl), [], [], h2, rfl, by simp, by simp, e2, p2⟩ ?_ ?_
  · rintro i hi ρ h' ⟨⟨_, _, _, _, rfl⟩, A, B, hh, rfl, sA, sB, e3, p3⟩
    have hi' : i < 2 ^ p := by rw [wordsD_len] at hi; exact hi
    have la := sA.length_le
    have lb := sB.length_le
    rw [List.length_range] at la lb
    rw [show (wordsD p)[i] = dI (bits p i) by simp [wordsD]]
    have wa : ∀ L : List Nat, wd p L ++ [dI (bits p i)] = wd p (L ++ [i]) := fun L => by unfold wd; rw [List.map_append]; rfl
    have up : ∀ L : List Nat, L.Sublist (List.range i) → L.Sublist (List.range (i + 1)) ∧ (L ++ [i]).Sublist (List.range (i + 1)) := fun L s => by
      rw [List.range_succ]
      exact ⟨s.trans (List.sublist_append_left _ _), s.append (List.Sublist.refl _)⟩
    infer_instance
    unfold c2
    refine P.callP (.lst [.ref h2.length, .ref (h2.length + 1)] :: .lst (wd p B) :: .lst (wd p A) :: []) p3 (by omega) (by omega) fun z h3 z0 z1 e4 p4 => ?_
    have e5 := puts2 e3 e4
    have l5 : h3.length = h2.length := by rw [puts2_len e5, puts2_len e2]
    rw [show (.lst [.ref h2.length, .ref (h2.length + 1)] :: .lst (wd p B) :: .lst (wd p A) :: []) ++ h3 = c2 h2.length p A B h3 from rfl]
    infer_instance
    refine IteD (fun hc => ?_) (fun hc => ?_)
    · have : z = 0 ∨ z = 1 := by omega
      infer_instance
      rcases this with rfl | rfl
      · rw [show ixH (c2 h2.length p A B h3) (.ref (h2.length + 1 + 1)) (.int 0) = some (.ref h2.length) from ix_ref (i := 0) (k := 0) (get_c2o l5) rfl]
        infer_instance
        refine ⟨rcv_of (get_c2a l5) (fun z => nomatch z), ?_⟩
        infer_instance
        rw [app_ok (get_c2a l5) (by rw [wd_len]; unfold SL; omega) below_dI, wa, put_c2a l5]
        infer_instance
        exact ⟨(by (repeat apply Exists.intro); rfl), A ++ [i], B, h3, rfl, (up A sA).2, (up B sB).1, e5, p4⟩
      · rw [show ixH (c2 h2.length p A B h3) (.ref (h2.length + 1 + 1)) (.int 1) = some (.ref (h2.length + 1)) from ix_ref (i := 1) (k := 1) (get_c2o l5) rfl]
        infer_instance
        refine ⟨rcv_of (get_c2b l5) (fun z => nomatch z), ?_⟩
        infer_instance
        rw [app_ok (get_c2b l5) (by rw [wd_len]; unfold SL; omega) below_dI, wa, put_c2b l5]
        infer_instance
        exact ⟨(by (repeat apply Exists.intro); rfl), A, B ++ [i], h3, rfl, (up A sA).1, (up B sB).2, e5, p4⟩
    · infer_instance
      exact ⟨(by (repeat apply Exists.intro); rfl), A, B, h3, rfl, (up A sA).1, (up B sB).1, e5, p4⟩
  · rintro ρ h' ⟨⟨_, _, _, _, rfl⟩, A, B, hh, rfl, sA, sB, e4, p4⟩
    rw [wordsD_len] at sA sB
    have l4 : h2.length = hh.length := by rw [puts2_len e4, puts2_len e2]
    have lh := puts2_len e4
    rw [l4]
    have te1 : trunc h.length (c2 hh.length p A B hh) = hh := by
      unfold c2
      rw [trunc_cons (by simp only [List.length_cons]; omega), trunc_cons (by simp only [List.length_cons]; omega), trunc_cons (by omega), trunc_eq lh]
    have te2 : trunc h.length (c2 (hh.length + 1 + 1 + 1) p [2 ^ p - 1] [0] (c2 hh.length p A B hh)) = hh := by
      show trunc h.length (.lst _ :: .lst _ :: .lst _ :: c2 hh.length p A B hh) = hh
      have lc : (c2 hh.length p A B hh).length = hh.length + 3 := rfl
      rw [trunc_cons (by simp only [List.length_cons]; omega), trunc_cons (by simp only [List.length_cons]; omega), trunc_cons (by omega), te1]
    have sl0 : [0].Sublist (List.range (2 ^ p)) := List.singleton_sublist.mpr (List.mem_range.mpr hp)
    have sl1 : [2 ^ p - 1].Sublist (List.range (2 ^ p)) := List.singleton_sublist.mpr (List.mem_range.mpr (by omega))
    have i1 : ∀ h : Hea, ixH h (.lst (wordsD p)) (.int (-1)) = some (dI (bits p (2 ^ p - 1))) := fun h => by
      have pl : plc (wordsD p).length (-1) = some (2 ^ p - 1) := by
        rw [wordsD_len]
        unfold plc
        rw [if_neg (by omega), if_pos (by omega)]
        congr 1
        omega
      rw [ix_lst pl]
      unfold wordsD
      rw [List.getElem?_map, List.getElem?_range (by omega)]; rfl
    have i0 : ∀ h : Hea, ixH h (.lst (wordsD p)) (.int 0) = some (dI (bits p 0)) := fun h => ix_wordsD (n := 0) hp
    infer_instance
    rw [W, melt_nb wnb]
    infer_instance
    rw [i0]
    infer_instance
    rw [W, melt_nb wnb]
    infer_instance
    rw [i1]
    infer_instance
    rw [show ixH (c2 hh.length p A B hh) (.ref (hh.length + 1 + 1)) (.int 0) = some (.ref hh.length) from ix_ref (i := 0) (k := 0) (get_c2o rfl) rfl]
    infer_instance
    rw [eq_nil (get_c2a rfl) wd_nbs wds_dep]
    infer_instance
    have new : ∀ hx : Hea, (Cell.lst [.ref hx.length, .ref (hx.length + 1)] :: .lst [dI (bits p 0)] :: .lst [dI (bits p (2 ^ p - 1))] :: hx) = c2 hx.length p [2 ^ p - 1] [0] hx := fun _ => rfl
    have lc : (c2 hh.length p A B hh).length = hh.length + 1 + 1 + 1 := rfl
    cases hA : (wd p A).isEmpty with
    | true =>
      infer_instance
      rw [new, lc]

      rw [show ixH (c2 (hh.length + 1 + 1 + 1) p [2 ^ p - 1] [0] (c2 hh.length p A B hh)) (.ref (hh.length + 1 + 1 + 1 + 1 + 1)) (.int 0) = some (.ref (hh.length + 1 + 1 + 1)) from ix_ref (i := 0) (k := 0) (get_c2o lc) rfl]
      infer_instance
      rw [(show Hd (c2 (hh.length + 1 + 1 + 1) p [2 ^ p - 1] [0] (c2 hh.length p A B hh)) p (.ref (hh.length + 1 + 1 + 1)) [2 ^ p - 1] from .inr ⟨_, rfl, get_c2a lc⟩).tuple]
      infer_instance
      rw [show ixH (c2 (hh.length + 1 + 1 + 1) p [2 ^ p - 1] [0] (c2 hh.length p A B hh)) (.ref (hh.length + 1 + 1 + 1 + 1 + 1)) (.int 1) = some (.ref (hh.length + 1 + 1 + 1 + 1)) from ix_ref (i := 1) (k := 1) (get_c2o lc) rfl]
      infer_instance
      rw [(show Hd (c2 (hh.length + 1 + 1 + 1) p [2 ^ p - 1] [0] (c2 hh.length p A B hh)) p (.ref (hh.length + 1 + 1 + 1 + 1)) [0] from .inr ⟨_, rfl, get_c2b lc⟩).tuple]
      infer_instance
      rw [show ∀ (Y M : List Nat), D.tup [.int (p : Int), .tup (wd p Y), .tup (wd p M)] = casD p Y M from fun _ _ => rfl, leave_nb casD_nb, te2]
      infer_instance
      exact ⟨_, _, rfl, sl1, sl0, e4, p4⟩
    | false =>
      infer_instance
      rw [show ixH (c2 hh.length p A B hh) (.ref (hh.length + 1 + 1)) (.int 1) = some (.ref (hh.length + 1)) from ix_ref (i := 1) (k := 1) (get_c2o rfl) rfl]
      infer_instance
      rw [eq_nil (get_c2b rfl) wd_nbs wds_dep]
      infer_instance
      cases hB : (wd p B).isEmpty with
      | true =>
        infer_instance
        rw [new, lc]
        rw [show ixH (c2 (hh.length + 1 + 1 + 1) p [2 ^ p - 1] [0] (c2 hh.length p A B hh)) (.ref (hh.length + 1 + 1 + 1 + 1 + 1)) (.int 0) = some (.ref (hh.length + 1 + 1 + 1)) from ix_ref (i := 0) (k := 0) (get_c2o lc) rfl]
        infer_instance
        rw [(show Hd (c2 (hh.length + 1 + 1 + 1) p [2 ^ p - 1] [0] (c2 hh.length p A B hh)) p (.ref (hh.length + 1 + 1 + 1)) [2 ^ p - 1] from .inr ⟨_, rfl, get_c2a lc⟩).tuple]
        infer_instance
        rw [show ixH (c2 (hh.length + 1 + 1 + 1) p [2 ^ p - 1] [0] (c2 hh.length p A B hh)) (.ref (hh.length + 1 + 1 + 1 + 1 + 1)) (.int 1) = some (.ref (hh.length + 1 + 1 + 1 + 1)) from ix_ref (i := 1) (k := 1) (get_c2o lc) rfl]
        infer_instance
        rw [(show Hd (c2 (hh.length + 1 + 1 + 1) p [2 ^ p - 1] [0] (c2 hh.length p A B hh)) p (.ref (hh.length + 1 + 1 + 1 + 1)) [0] from .inr ⟨_, rfl, get_c2b lc⟩).tuple]
        infer_instance
        rw [show ∀ (Y M : List Nat), D.tup [.int (p : Int), .tup (wd p Y), .tup (wd p M)] = casD p Y M from fun _ _ => rfl, leave_nb casD_nb, te2]
        infer_instance
        exact ⟨_, _, rfl, sl1, sl0, e4, p4⟩
      | false =>
        infer_instance
        rw [show ixH (c2 hh.length p A B hh) (.ref (hh.length + 1 + 1)) (.int 0) = some (.ref hh.length) from ix_ref (i := 0) (k := 0) (get_c2o rfl) rfl]
        infer_instance
        rw [(show Hd (c2 hh.length p A B hh) p (.ref hh.length) A from .inr ⟨_, rfl, get_c2a rfl⟩).tuple]
        infer_instance
        rw [show ixH (c2 hh.length p A B hh) (.ref (hh.length + 1 + 1)) (.int 1) = some (.ref (hh.length + 1)) from ix_ref (i := 1) (k := 1) (get_c2o rfl) rfl]
        infer_instance
        rw [(show Hd (c2 hh.length p A B hh) p (.ref (hh.length + 1)) B from .inr ⟨_, rfl, get_c2b rfl⟩).tuple]
        infer_instance
        rw [show ∀ (Y M : List Nat), D.tup [.int (p : Int), .tup (wd p Y), .tup (wd p M)] = casD p Y M from fun _ _ => rfl, leave_nb casD_nb, te1]
        infer_instance
        exact ⟨_, _, rfl, sA, sB, e4, p4⟩
/-! ### the same twice -/
theorem repr_rsv {h : Hea} {x z : D} (hx : rsv h x = some z) (hl : low z = true) (hw : wg z ≤ 1600000) (hd : dep z ≤ 60) : bltH .repr h [x] = some (.str (shw z)) := by
  have e := repr_low (h := h) hl hw hd
  have e1 : bltH .repr h [z] = (rsv h z).bind fun y => if reprOk y then some (.str (shw y)) else none := rfl
  have e2 : bltH .repr h [x] = (rsv h x).bind fun y => if reprOk y then some (.str (shw y)) else none := rfl
  rw [e2, hx]
  rw [e1, show rsv h z = some z from frzN_below (low_below hl)] at e
  exact e
theorem same_at {x y z : D} {N : Nat} (hN : 1 ≤ N) {h : Hea} (hx : rsv h x = some z) (hy : rsv h y = some z) (hl : low z = true) (hw : wg z ≤ 1600000) (hd : dep z ≤ 60) (hn : nb z = true) : run Fs N 16 [x, y] h = .ok (.bl true) h := by
  obtain ⟨k, rfl⟩ : ∃ k, N = k + 1 := ⟨N - 1, by omega⟩
  refine WP.eq ?_
  rw [run_at (f := f16) rfl]
  refine WP_exF rfl ?_
  simp only [f16]
  infer_instance
  rw [eq_refl hx hy hn (by omega)]
  infer_instance
  rw [repr_rsv hx hl hw hd]
  infer_instance
  rw [repr_rsv hy hl hw hd]
  infer_instance
  rw [eq_s_tt (shw_ok hl)]
  infer_instance
  exact trunc_self
/-- a case, a saying and a talk -/
def z3 (p : Nat) (Y M : List Nat) (s : Sg) (t : Tk) : D := .lst [casD p Y M, s.d, t.d p]
theorem z3_nb {p : Nat} {Y M : List Nat} {s : Sg} {t : Tk} : nb (z3 p Y M s t) = true := nb_lstA fun d hd => by
  simp only [List.mem_cons, List.not_mem_nil, or_false] at hd
  rcases hd with rfl | rfl | rfl
  · exact casD_nb
  · exact Sg.nb
  · exact t.nb
theorem z3_low {p k : Nat} (h5 : p ≤ 5) {Y M : List Nat} {s : Sg} {t : Tk} (hs : s.ok p [0, 1] k) (ht : t.gd p k) (hk : k ≤ 12) (lY : Y.length ≤ 40) (lM : M.length ≤ 40) (ls : s.lv ≤ 100) (lt : t.lv ≤ 100) : low (z3 p Y M s t) = true ∧ wg (z3 p Y M s t) ≤ 1600000 ∧ dep (z3 p Y M s t) ≤ 60 := by
  have a := cas_wg (p := p) h5 lY lM
  have b := wg_sg (p := p) (by omega) hs
  have c := wg_tk h5 ht
  have d1 := hs.dep
  have d2 := ht.dep
  refine ⟨low_lst fun d hd => ?_, ?_, Nat.le_trans (dep_lstA (n := 20) fun d hd => ?_) (by omega)⟩
  · simp only [List.mem_cons, List.not_mem_nil, or_false] at hd
    rcases hd with rfl | rfl | rfl
    · exact cas_low h5
    · exact low_sg (p := p) (by omega) hs
    · exact low_tk h5 ht
  · unfold z3
    rw [wg_lst, wgs_cons, wgs_cons, wgs_cons, wgs_nil]
    omega
  · simp only [List.mem_cons, List.not_mem_nil, or_false] at hd
    rcases hd with rfl | rfl | rfl
    · exact Nat.le_trans cas_dep (by omega)
    · omega
    · omega
theorem right_at {p k : Nat} (h1 : 1 ≤ p) (h5 : p ≤ 5) {F Y M : List Nat} (f : Fl p F) (sY : Y.Sublist (List.range (2 ^ p))) (sM : M.Sublist (List.range (2 ^ p))) {s : Sg} {t : Tk} (hs : s.ok p [0, 1] k) (ht : t.ok p k) (hk : k ≤ 12) (ls : s.lv ≤ 100) (lt : t.lv ≤ 100) {N : Nat} (hN : 20 ≤ N) {h : Hea} :
    run Fs N 17 [casD p Y M, s.d, t.d p, dI (FI F)] h = .ok (.bl true) h := by
  obtain ⟨m, rfl⟩ : ∃ m, N = m + 1 := ⟨N - 1, by omega⟩
  have wY : Ws p Y := .of sY
  have wM : Ws p M := .of sM
  have lY := wY.l h5
  have lM := wM.l h5
  obtain ⟨Y', eY, l1, b1, m1⟩ := sw_wd h1 (fl_ws f wY).lt
  obtain ⟨M', eM, l2, b2, m2⟩ := sw_wd h1 (fl_ws f wM).lt
  rw [List.length_map] at l1 l2
  have lY' : Lt p Y' := ⟨by rw [l1]; exact lY.le, b1⟩
  have lM' : Lt p M' := ⟨by rw [l2]; exact lM.le, b2⟩
  obtain ⟨u, eu, gu, lu, bu⟩ := fT_tk h1 h5 f ht
  have eC : fC p F Y M = casD p Y' M' := by unfold fC casD; rw [eY, eM]
  have eB : fC p F Y' M' = casD p Y M := by unfold fC casD; rw [sw_back h1 h5 f.lt sY b1 m1, sw_back h1 h5 f.lt sM b2 m2]
  have fs := flS_ok (F := F) hs
  obtain ⟨za, zb, zc⟩ := z3_low h5 fs gu hk lY'.le lM'.le (by rw [flS_lv]; exact ls) (by rw [lu]; exact lt)
  obtain ⟨ya, yb, yc⟩ := z3_low h5 hs ht.gd hk lY.le lM.le ls lt
  have C1 := fun h : Hea => case_fl (N := m) (h := h) h1 h5 f lY lM (by omega)
  have C2 := fun h : Hea => case_fl (N := m) (h := h) h1 h5 f lY' lM' (by omega)
  have S1 := fun h : Hea => saying_fl (F := F) (N := m) hs (by omega) h
  have S2 := fun h : Hea => saying_fl (F := F) (N := m) fs (by omega) h
  have T1 := fun h : Hea => talk_fl h1 h5 f (N := m) ht.gd (by omega) h
  have T2' := fun h : Hea => talk_fl h1 h5 f (N := m) gu (by omega) h
  rw [eC] at C1
  rw [eB] at C2
  rw [flS_flS] at S2
  rw [eu] at T1
  rw [bu] at T2'
  refine WP.eq ?_
  rw [run_at (f := f17) rfl]
  refine WP_exF rfl ?_
  simp only [f17]
  unfold casD
  infer_instance
  rw [rising_at h1 h5 f lY (by omega), melt_nb sw_nb]
  infer_instance
  rw [rising_at h1 h5 f lM (by omega), melt_nb sw_nb]
  trivial
  refine ⟨by bv_omega, ?_⟩
  rw [saying_due hs (by omega), melt_nb Sg.nb]
  trivial
  refine ⟨by bv_omega, ?_⟩
  rw [show D.tup [.int (p : Int), .tup (sw p (Y.map (fl p F))), .tup (sw p (M.map (fl p F)))] = casD p Y' M' from eC, show D.tup [.int (p : Int), .tup (wd p Y), .tup (wd p M)] = casD p Y M from rfl]
  infer_instance
  refine ⟨rcv_of get_top (fun z => nomatch z), ?_⟩
  infer_instance
  rw [talk_due h1 h5 f ht.gd (by omega), melt_nb fT_nb, eu]
  infer_instance
  rw [app_ok get_top (by unfold SL; simp) (below_nb u.nb), put_top]
  have zn := z3_nb (p := p) (Y := Y') (M := M') (s := flS F s) (t := u)
  have yn := z3_nb (p := p) (Y := Y) (M := M) (s := s) (t := t)
  have rz : rsv (.lst [casD p Y' M', (flS F s).d, u.d p] :: h) (.ref h.length) = some (z3 p Y' M' (flS F s) u) := rsv_ref get_top zn (by
    have e : dep (z3 p Y' M' (flS F s) u) = PySem.PyData.depthAll (toPys [casD p Y' M', (flS F s).d, u.d p]) + 1 := dep_lst
    have c1 := cas_dep (p := p) (Y := Y') (M := M')
    have c2 := fs.dep
    have c3 := gu.dep
    have := dep_lstA (n := 20) (ds := [casD p Y' M', (flS F s).d, u.d p]) fun d hd => by
      simp only [List.mem_cons, List.not_mem_nil, or_false] at hd
      rcases hd with rfl | rfl | rfl <;> omega
    rw [dep_lst] at this
    omega)
  rw [show ([casD p Y' M', (flS F s).d] ++ [u.d p] : List D) = [casD p Y' M', (flS F s).d, u.d p] from rfl]
  infer_instance
  refine frL_rng (fun i ρ h' => (∃ z5 z10, ρ = [some (casD p Y M), some s.d, some (t.d p), some (dI (FI F)), some (.ref h.length), z5, none, some (.int p), some (.tup (wd p Y)), some (.tup (wd p M)), z10] ∧ (i ≠ 0 → z10 = some (z3 p Y' M' (flS F s) u))) ∧ h' = .lst [casD p Y' M', (flS F s).d, u.d p] :: h) ⟨⟨_, _, rfl, fun z => absurd rfl z⟩, rfl⟩ ?_ ?_
  · rintro i hi ρ h' ⟨⟨z5, z10, rfl, _⟩, rfl⟩
    infer_instance
    rw [C1, melt_nb casD_nb]
    infer_instance
    rw [S1, melt_nb Sg.nb]
    infer_instance
    rw [T1, melt_nb u.nb]
    infer_instance
    rw [show D.lst [casD p Y' M', (flS F s).d, u.d p] = z3 p Y' M' (flS F s) u from rfl, same_at (z := z3 p Y' M' (flS F s) u) (by omega) (rsv_nb zn) rz za zb zc zn]
    infer_instance
    exact ⟨_, _, rfl, fun _ => rfl⟩
  · rintro ρ h' ⟨⟨z5, z10, rfl, hz10⟩, rfl⟩
    have hz10 := hz10 (by decide)
    subst hz10
    unfold z3
    infer_instance
    rw [C2, melt_nb casD_nb]
    infer_instance
    rw [S2, melt_nb Sg.nb]
    infer_instance
    rw [T2', melt_nb t.nb]
    infer_instance
    rw [show D.lst [casD p Y M, s.d, t.d p] = z3 p Y M s t from rfl, same_at (z := z3 p Y M s t) (by omega) (rsv_nb yn) (rsv_nb yn) ya yb yc yn]
    infer_instance
    rw [trunc_cons (Nat.le_refl _), trunc_self]
/-! ### the law -/
theorem law_ok {ns : List Int} : WP (run Fs depth 18 [.scr ns] []) (fun d h' => d = .bl true) NX := by
  show WP (run Fs (64 + 1) 18 [.scr ns] []) _ _
  rw [run_at (f := f18) rfl]
  refine WP_exF rfl ?_
  simp only [f18]
  have P : Drw (GS ns) (run Fs 64) 6 := C_draw (by omega)
  infer_instance
  refine (pen_at (N := 64) (by omega)).nx ?_
  rintro d h0 ⟨rfl, pen, c0, rfl⟩
  infer_instance
  refine frL_rng (fun i ρ h' => (∃ z1 z2 z3 z4 z5 z6 z7 z8, ρ = [some (.scr ns), some (.ref 0), z1, z2, z3, z4, z5, z6, z7, z8]) ∧ Pn (GS ns) h' 0) ⟨(by (repeat apply Exists.intro); rfl), pen⟩ ?_ ?_
  · rintro i hi ρ h1 ⟨⟨_, _, _, _, _, _, _, _, rfl⟩, p1⟩
    rw [Int.zero_add]
    infer_instance
    refine P.call p1 (by omega) (by omega) fun w h2 w0 w1 e2 p2 => ?_
    obtain ⟨p, hp⟩ : ∃ p : Nat, 1 + w = (p : Int) := ⟨(1 + w).toNat, by omega⟩
    have hp1 : 1 ≤ p := by omega
    have hp5 : p ≤ 5 := by omega
    infer_instance
    rw [hp]
    refine W_meltV ((case_at hp1 hp5 (N := 64) (by omega) p2).nx fun d h3 q => ?_)
    obtain ⟨Y, M, rfl, sY, sM, e3, p3⟩ := q
    refine ⟨nb_ref casD_nb, ?_⟩
    infer_instance
    have many : ∀ (h : Hea), Pn (GS ns) h 0 → ∀ j : Int, 0 ≤ j → j < 2 → ∃ f : Int, ixH h (.lst [.int 9, .int 60]) (.int j) = some (.int f) ∧ 1 ≤ f ∧ f ≤ 60 := fun h _ j j0 j1 => by
      have : j = 0 ∨ j = 1 := by omega
      rcases this with rfl | rfl
      · exact ⟨9, ix_lst (k := 0) rfl, by omega, by omega⟩
      · exact ⟨60, ix_lst (k := 1) rfl, by omega, by omega⟩
    refine P.call p3 (by omega) (by omega) fun j h4 j0 j1 e4 p4 => ?_
    infer_instance
    obtain ⟨f, ef, f1, f2⟩ := many h4 p4 j j0 j1
    rw [ef]
    infer_instance
    refine P.call p4 (by omega) (by omega) fun q h5 q0 q1 e5 p5 => ?_
    infer_instance
    refine W_meltV ((saying_at hp1 hp5 12 (by omega) 64 (1 + q) h5 (by omega) (by omega) (by omega) p5).nx fun d h6 z => ?_)
    obtain ⟨s, rfl, ⟨hs, ls⟩, e6, p6⟩ := z
    refine ⟨nb_ref Sg.nb, ?_⟩
    infer_instance
    refine P.call p6 (by omega) (by omega) fun j' h7 j0' j1' e7 p7 => ?_
    infer_instance
    obtain ⟨g, eg, g1, g2⟩ := many h7 p7 j' j0' j1'
    rw [eg]
    infer_instance
    refine P.call p7 (by omega) (by omega) fun q' h8 q0' q1' e8 p8 => ?_
    infer_instance
    refine W_meltV ((talk_at hp1 hp5 12 (by omega) 64 (1 + q') h8 (by omega) (by omega) (by omega) p8).nx fun d h9 z => ?_)
    obtain ⟨t, rfl, ⟨ht, lt⟩, e9, p9⟩ := z
    refine ⟨nb_ref t.nb, ?_⟩
    infer_instance
    refine lcL_ind (fun j acc h' => ∃ F : List Nat, acc = (FI F).map .int ∧ F.Sublist (List.range j) ∧ Pn (GS ns) h' 0) ⟨[], rfl, by simp, p9⟩ ?_ ?_
    · rintro j hj acc h' ⟨F, rfl, sF, pF⟩
      have hj' : j < p := by rw [rngL_len] at hj; omega
      have sl := sF.length_le
      rw [List.length_range] at sl
      refine ⟨.int ((j : Nat) : Int), _, by simp only [rngL, List.getElem_map, List.getElem_range, Int.zero_add]; rfl, rfl, ?_⟩
      infer_instance
      refine P.call pF (by omega) (by omega) fun z h10 z0 z1 e10 p10 => ?_
      infer_instance
      split
      · infer_instance
        refine ⟨⟨by unfold FI; rw [List.length_map, List.length_map]; unfold SL; omega, below_int⟩, F ++ [j], by unfold FI; rw [List.map_append, List.map_append]; rfl, ?_, p10⟩
        rw [List.range_succ]
        exact sF.append (List.Sublist.refl _)
      · refine ⟨F, rfl, ?_, p10⟩
        rw [List.range_succ]
        exact sF.trans (List.sublist_append_left _ _)
    rintro acc h10 ⟨F, rfl, sF, p10⟩
    rw [rngL_len, Int.sub_zero, Int.toNat_natCast] at sF
    refine ⟨rfl, ?_⟩
    have fF : Fl p F := ⟨sF.nodup List.nodup_range, fun i hi => List.mem_range.mp (sF.subset hi)⟩
    have f0' : Fl p [] := ⟨by simp, fun i hi => nomatch hi⟩
    have fA : Fl p (List.range p) := ⟨List.nodup_range, fun i hi => List.mem_range.mp hi⟩
    have f1' : Fl p [p - 1] := ⟨by simp, fun i hi => by rw [List.mem_singleton.mp hi]; omega⟩
    have one : ∀ (F' : List Nat), Fl p F' → ∀ (u2 u7 u9 : Option D) Q E, WP (exB (run Fs 64) [.ifs (.lnot (.cal false 17 (.cons (.nam 4) (.cons (.nam 5) (.cons (.nam 6) (.cons (.nam 8) .nil))))))
         [.ret (.cst (.bl false))]
         []] [some (.scr ns), some (.ref 0), u2, some (.int p), some (casD p Y M), some s.d, some (t.d p), u7, some (dI (FI F')), u9] h10) (Bod (fun ρ h' => ρ = [some (.scr ns), some (.ref 0), u2, some (.int p), some (casD p Y M), some s.d, some (t.d p), u7, some (dI (FI F')), u9] ∧ h' = h10) Q) E := by
      intro F' fF' u2 u7 u9 Q E
      infer_instance
      rw [right_at hp1 hp5 fF' sY sM hs ht (by omega) (by omega) (by omega) (by omega)]
      infer_instance
    have e1 : D.tup ((FI F).map .int) = dI (FI F) := rfl
    have e2 : D.tup [] = dI (FI []) := rfl
    have e3 : D.tup ((List.range (p : Int).toNat).map fun (i : Nat) => .int (i : Int)) = dI (FI (List.range p)) := by
      rw [Int.toNat_natCast]
      unfold dI FI
      rw [List.map_map]; rfl
    have e4 : D.tup [.int ((p : Int) - 1)] = dI (FI [p - 1]) := by
      unfold dI FI
      rw [show (p : Int) - 1 = ((p - 1 : Nat) : Int) by omega]; rfl
    trivial
    rw [e1, B_cons]
    trivial
    rw [W_trg]
    trivial
    refine ⟨⟨by omega, by omega⟩, ?_⟩
    rw [e2, e3, e4]
    refine ⟨by bv_omega, by bv_omega, ?_⟩
    refine (one F fF _ _ _ _ _).bod ?_
    rintro ρ h' ⟨rfl, rfl⟩
    trivial
    refine (one [] f0' _ _ _ _ _).bod ?_
    rintro ρ h' ⟨rfl, rfl⟩
    trivial
    refine (one (List.range p) fA _ _ _ _ _).bod ?_
    rintro ρ h' ⟨rfl, rfl⟩
    trivial
    refine (one [p - 1] f1' _ _ _ _ _).bod ?_
    rintro ρ h' ⟨rfl, rfl⟩
    infer_instance
    exact ⟨(by (repeat apply Exists.intro); rfl), p10⟩
  · rintro ρ h1 ⟨⟨_, _, _, _, _, _, _, _, rfl⟩, p1⟩
    infer_instance
theorem law_true (ns : List Int) (hl : ns.length ≤ 63) (hb : ∀ z ∈ ns, PySem.Builtin.Int.intBits z ≤ 1048576) : ∃ h', run Fs depth 18 [.scr ns] [] = .ok (.bl true) h' := by
  obtain ⟨d, h', e, rfl⟩ := (law_ok (ns := ns)).run
  exact ⟨h', e⟩
end Lw

namespace Lw
open PySem L2 MP
def tab : Tab := ⟨[("flipped_word", 0), ("flipped_words", 1), ("flipped_case", 2), ("flipped_saying", 3), ("flipped_talk", 4), ("_law_begin", 5), ("_law_some_of", 6), ("_law_words_of", 7), ("_law_case", 8), ("_law_parted", 9), ("_law_saying", 10), ("_law_talk", 11), ("_law_other_bits", 12), ("_law_rising", 13), ("_law_due_saying", 14), ("_law_due_talk", 15), ("_law_same", 16), ("_law_right", 17), ("law", 18)], ["abs", "enumerate", "int", "len", "list", "max", "min", "range", "repr", "sorted", "tuple"], [["word", "some"], ["words", "some"], ["case", "some"], ["saying", "some"], ["talk", "some"], ["_law_script"], ["_law_pen", "_law_many"], ["_law_places"], ["_law_pen", "_law_places"], ["_law_pen", "_law_many", "_law_room"], ["_law_pen", "_law_places", "_law_many", "_law_room"], ["_law_pen", "_law_places", "_law_many", "_law_room"], ["_law_word", "_law_some"], ["_law_words", "_law_some"], ["_law_saying_here", "_law_some"], ["_law_talk_here", "_law_some"], ["_law_found", "_law_due"], ["_law_case_here", "_law_saying_here", "_law_talk_here", "_law_some"], ["_law_script"]], []⟩
def top (i : Nat) : Stmt := PySem.Challenge.pw_unlikeplace_k47_flipped.main.body.getD i (.Pass ⟨0, 0, 0, 0⟩)
def n0 : List Str := ["word", "some", "place", "bit"]
theorem sc0 : FnScope n0 (psOf tab 0) (defScope (top 1)) := ⟨rfl, rfl, rfl, by decide +kernel, rfl, by decide +kernel, by decide +kernel⟩
theorem ck0 : ckB tab n0 (defScope (top 1)) f0.body (defBody (top 1)) = true := by decide +kernel
def n1 : List Str := ["words", "some", "word"]
theorem sc1 : FnScope n1 (psOf tab 1) (defScope (top 2)) := ⟨rfl, rfl, rfl, by decide +kernel, rfl, by decide +kernel, by decide +kernel⟩
theorem ck1 : ckB tab n1 (defScope (top 2)) f1.body (defBody (top 2)) = true := by decide +kernel
def n2 : List Str := ["case", "some"]
theorem sc2 : FnScope n2 (psOf tab 2) (defScope (top 3)) := ⟨rfl, rfl, rfl, by decide +kernel, rfl, by decide +kernel, by decide +kernel⟩
theorem ck2 : ckB tab n2 (defScope (top 3)) f2.body (defBody (top 3)) = true := by decide +kernel
def n3 : List Str := ["saying", "some", "kind", "one", "other"]
theorem sc3 : FnScope n3 (psOf tab 3) (defScope (top 4)) := ⟨rfl, rfl, rfl, by decide +kernel, rfl, by decide +kernel, by decide +kernel⟩
theorem ck3 : ckB tab n3 (defScope (top 4)) f3.body (defBody (top 4)) = true := by decide +kernel
def n4 : List Str := ["talk", "some", "hand", "says", "first", "second"]
theorem sc4 : FnScope n4 (psOf tab 4) (defScope (top 5)) := ⟨rfl, rfl, rfl, by decide +kernel, rfl, by decide +kernel, by decide +kernel⟩
theorem ck4 : ckB tab n4 (defScope (top 5)) f4.body (defBody (top 5)) = true := by decide +kernel
def n5 : List Str := ["_law_script"]
theorem sc5 : FnScope n5 (psOf tab 5) (defScope (top 7)) := ⟨rfl, rfl, rfl, by decide +kernel, rfl, by decide +kernel, by decide +kernel⟩
theorem ck5 : ckB tab n5 (defScope (top 7)) f5.body (defBody (top 7)) = true := by decide +kernel
def n6 : List Str := ["_law_pen", "_law_many", "_law_at", "_law_cell", "_law_shaken", "_law_one"]
theorem sc6 : FnScope n6 (psOf tab 6) (defScope (top 8)) := ⟨rfl, rfl, rfl, by decide +kernel, rfl, by decide +kernel, by decide +kernel⟩
theorem ck6 : ckB tab n6 (defScope (top 8)) f6.body (defBody (top 8)) = true := by decide +kernel
def n7 : List Str := ["_law_places", "_law_found", "_law_k", "_law_word"]
theorem sc7 : FnScope n7 (psOf tab 7) (defScope (top 9)) := ⟨rfl, rfl, rfl, by decide +kernel, rfl, by decide +kernel, by decide +kernel⟩
theorem ck7 : ckB tab n7 (defScope (top 9)) f7.body (defBody (top 9)) = true := by decide +kernel
def n8 : List Str := ["_law_pen", "_law_places", "_law_rare", "_law_sorts", "_law_word", "_law_way", "_law_first", "_law_last"]
theorem sc8 : FnScope n8 (psOf tab 8) (defScope (top 10)) := ⟨rfl, rfl, rfl, by decide +kernel, rfl, by decide +kernel, by decide +kernel⟩
theorem ck8 : ckB tab n8 (defScope (top 10)) f8.body (defBody (top 10)) = true := by decide +kernel
def n9 : List Str := ["_law_pen", "_law_many", "_law_room", "_law_most", "_law_low", "_law_high"]
theorem sc9 : FnScope n9 (psOf tab 9) (defScope (top 11)) := ⟨rfl, rfl, rfl, by decide +kernel, rfl, by decide +kernel, by decide +kernel⟩
theorem ck9 : ckB tab n9 (defScope (top 11)) f9.body (defBody (top 11)) = true := by decide +kernel
def n10 : List Str := ["_law_pen", "_law_places", "_law_many", "_law_room", "_law_here", "_law_one"]
theorem sc10 : FnScope n10 (psOf tab 10) (defScope (top 12)) := ⟨rfl, rfl, rfl, by decide +kernel, rfl, by decide +kernel, by decide +kernel⟩
theorem ck10 : ckB tab n10 (defScope (top 12)) f10.body (defBody (top 12)) = true := by decide +kernel
def n11 : List Str := ["_law_pen", "_law_places", "_law_many", "_law_room", "_law_here", "_law_way", "_law_says", "_law_one", "_law_hand", "_law_word"]
theorem sc11 : FnScope n11 (psOf tab 11) (defScope (top 13)) := ⟨rfl, rfl, rfl, by decide +kernel, rfl, by decide +kernel, by decide +kernel⟩
theorem ck11 : ckB tab n11 (defScope (top 13)) f11.body (defBody (top 13)) = true := by decide +kernel
def n12 : List Str := ["_law_word", "_law_some", "_law_bits", "_law_place"]
theorem sc12 : FnScope n12 (psOf tab 12) (defScope (top 14)) := ⟨rfl, rfl, rfl, by decide +kernel, rfl, by decide +kernel, by decide +kernel⟩
theorem ck12 : ckB tab n12 (defScope (top 14)) f12.body (defBody (top 14)) = true := by decide +kernel
def n13 : List Str := ["_law_words", "_law_some", "_law_word"]
theorem sc13 : FnScope n13 (psOf tab 13) (defScope (top 15)) := ⟨rfl, rfl, rfl, by decide +kernel, rfl, by decide +kernel, by decide +kernel⟩
theorem ck13 : ckB tab n13 (defScope (top 15)) f13.body (defBody (top 15)) = true := by decide +kernel
def n14 : List Str := ["_law_saying_here", "_law_some"]
theorem sc14 : FnScope n14 (psOf tab 14) (defScope (top 16)) := ⟨rfl, rfl, rfl, by decide +kernel, rfl, by decide +kernel, by decide +kernel⟩
theorem ck14 : ckB tab n14 (defScope (top 16)) f14.body (defBody (top 16)) = true := by decide +kernel
def n15 : List Str := ["_law_talk_here", "_law_some", "_law_one", "_law_other", "_law_part"]
theorem sc15 : FnScope n15 (psOf tab 15) (defScope (top 17)) := ⟨rfl, rfl, rfl, by decide +kernel, rfl, by decide +kernel, by decide +kernel⟩
theorem ck15 : ckB tab n15 (defScope (top 17)) f15.body (defBody (top 17)) = true := by decide +kernel
def n16 : List Str := ["_law_found", "_law_due"]
theorem sc16 : FnScope n16 (psOf tab 16) (defScope (top 18)) := ⟨rfl, rfl, rfl, by decide +kernel, rfl, by decide +kernel, by decide +kernel⟩
theorem ck16 : ckB tab n16 (defScope (top 18)) f16.body (defBody (top 18)) = true := by decide +kernel
def n17 : List Str := ["_law_case_here", "_law_saying_here", "_law_talk_here", "_law_some", "_law_due", "_law_again", "_law_back", "_law_places", "_law_yes", "_law_no", "_law_found"]
theorem sc17 : FnScope n17 (psOf tab 17) (defScope (top 19)) := ⟨rfl, rfl, rfl, by decide +kernel, rfl, by decide +kernel, by decide +kernel⟩
theorem ck17 : ckB tab n17 (defScope (top 19)) f17.body (defBody (top 19)) = true := by decide +kernel
def n18 : List Str := ["_law_script", "_law_pen", "_law_turn", "_law_places", "_law_case_here", "_law_saying_here", "_law_talk_here", "_law_some", "_law_flips", "_law_place"]
theorem sc18 : FnScope n18 (psOf tab 18) (defScope (top 20)) := ⟨rfl, rfl, rfl, by decide +kernel, rfl, by decide +kernel, by decide +kernel⟩
theorem ck18 : ckB tab n18 (defScope (top 20)) f18.body (defBody (top 20)) = true := by decide +kernel
theorem all_mk {K : PySem.W.Frag} {h : Heap} {mg : Str → Option Value} (X : K.In h) (G : h.Ns mainGlobals mg)
    {a0 a1 a2 a3 a4 a5 a6 a7 a8 a9 a10 a11 a12 a13 a14 a15 a16 a17 a18 : Addr} {od0 an0 od1 an1 od2 an2 od3 an3 od4 an4 od5 an5 od6 an6 od7 an7 od8 an8 od9 an9 od10 an10 od11 an11 od12 an12 od13 an13 od14 an14 od15 an15 od16 an16 od17 an17 od18 an18 : Option Addr} {sl0 sl1 sl2 sl3 sl4 sl5 sl6 sl7 sl8 sl9 sl10 sl11 sl12 sl13 sl14 sl15 sl16 sl17 sl18 : Array (Option Value)} {oc0 kV0 dc0 pm0 cd0 ct0 oc1 kV1 dc1 pm1 cd1 ct1 oc2 kV2 dc2 pm2 cd2 ct2 oc3 kV3 dc3 pm3 cd3 ct3 oc4 kV4 dc4 pm4 cd4 ct4 oc5 kV5 dc5 pm5 cd5 ct5 oc6 kV6 dc6 pm6 cd6 ct6 oc7 kV7 dc7 pm7 cd7 ct7 oc8 kV8 dc8 pm8 cd8 ct8 oc9 kV9 dc9 pm9 cd9 ct9 oc10 kV10 dc10 pm10 cd10 ct10 oc11 kV11 dc11 pm11 cd11 ct11 oc12 kV12 dc12 pm12 cd12 ct12 oc13 kV13 dc13 pm13 cd13 ct13 oc14 kV14 dc14 pm14 cd14 ct14 oc15 kV15 dc15 pm15 cd15 ct15 oc16 kV16 dc16 pm16 cd16 ct16 oc17 kV17 dc17 pm17 cd17 ct17 oc18 kV18 dc18 pm18 cd18 ct18 : Value}
    (x0 : PySem.W.nsIn K mainGlobals "flipped_word" = some (some (.ref a0))) (l0 : K.lookup a0 = some ⟨oc0, od0, .func (PySem.W.fnOf "flipped_word" "flipped_word" (defArgs (top 1)) (defBody (top 1)) (defScope (top 1)) .none kV0 dc0 pm0 an0 cd0 ct0), sl0⟩) (c0 : PySem.W.codeIn K cd0 "flipped_word" = true) (k0 : PySem.W.keepIn K (.ref a0) = true)
    (x1 : PySem.W.nsIn K mainGlobals "flipped_words" = some (some (.ref a1))) (l1 : K.lookup a1 = some ⟨oc1, od1, .func (PySem.W.fnOf "flipped_words" "flipped_words" (defArgs (top 2)) (defBody (top 2)) (defScope (top 2)) .none kV1 dc1 pm1 an1 cd1 ct1), sl1⟩) (c1 : PySem.W.codeIn K cd1 "flipped_words" = true) (k1 : PySem.W.keepIn K (.ref a1) = true)
    (x2 : PySem.W.nsIn K mainGlobals "flipped_case" = some (some (.ref a2))) (l2 : K.lookup a2 = some ⟨oc2, od2, .func (PySem.W.fnOf "flipped_case" "flipped_case" (defArgs (top 3)) (defBody (top 3)) (defScope (top 3)) .none kV2 dc2 pm2 an2 cd2 ct2), sl2⟩) (c2 : PySem.W.codeIn K cd2 "flipped_case" = true) (k2 : PySem.W.keepIn K (.ref a2) = true)
    (x3 : PySem.W.nsIn K mainGlobals "flipped_saying" = some (some (.ref a3))) (l3 : K.lookup a3 = some ⟨oc3, od3, .func (PySem.W.fnOf "flipped_saying" "flipped_saying" (defArgs (top 4)) (defBody (top 4)) (defScope (top 4)) .none kV3 dc3 pm3 an3 cd3 ct3), sl3⟩) (c3 : PySem.W.codeIn K cd3 "flipped_saying" = true) (k3 : PySem.W.keepIn K (.ref a3) = true)
    (x4 : PySem.W.nsIn K mainGlobals "flipped_talk" = some (some (.ref a4))) (l4 : K.lookup a4 = some ⟨oc4, od4, .func (PySem.W.fnOf "flipped_talk" "flipped_talk" (defArgs (top 5)) (defBody (top 5)) (defScope (top 5)) .none kV4 dc4 pm4 an4 cd4 ct4), sl4⟩) (c4 : PySem.W.codeIn K cd4 "flipped_talk" = true) (k4 : PySem.W.keepIn K (.ref a4) = true)
    (x5 : PySem.W.nsIn K mainGlobals "_law_begin" = some (some (.ref a5))) (l5 : K.lookup a5 = some ⟨oc5, od5, .func (PySem.W.fnOf "_law_begin" "_law_begin" (defArgs (top 7)) (defBody (top 7)) (defScope (top 7)) .none kV5 dc5 pm5 an5 cd5 ct5), sl5⟩) (c5 : PySem.W.codeIn K cd5 "_law_begin" = true) (k5 : PySem.W.keepIn K (.ref a5) = true)
    (x6 : PySem.W.nsIn K mainGlobals "_law_some_of" = some (some (.ref a6))) (l6 : K.lookup a6 = some ⟨oc6, od6, .func (PySem.W.fnOf "_law_some_of" "_law_some_of" (defArgs (top 8)) (defBody (top 8)) (defScope (top 8)) .none kV6 dc6 pm6 an6 cd6 ct6), sl6⟩) (c6 : PySem.W.codeIn K cd6 "_law_some_of" = true) (k6 : PySem.W.keepIn K (.ref a6) = true)
    (x7 : PySem.W.nsIn K mainGlobals "_law_words_of" = some (some (.ref a7))) (l7 : K.lookup a7 = some ⟨oc7, od7, .func (PySem.W.fnOf "_law_words_of" "_law_words_of" (defArgs (top 9)) (defBody (top 9)) (defScope (top 9)) .none kV7 dc7 pm7 an7 cd7 ct7), sl7⟩) (c7 : PySem.W.codeIn K cd7 "_law_words_of" = true) (k7 : PySem.W.keepIn K (.ref a7) = true)
    (x8 : PySem.W.nsIn K mainGlobals "_law_case" = some (some (.ref a8))) (l8 : K.lookup a8 = some ⟨oc8, od8, .func (PySem.W.fnOf "_law_case" "_law_case" (defArgs (top 10)) (defBody (top 10)) (defScope (top 10)) .none kV8 dc8 pm8 an8 cd8 ct8), sl8⟩) (c8 : PySem.W.codeIn K cd8 "_law_case" = true) (k8 : PySem.W.keepIn K (.ref a8) = true)
    (x9 : PySem.W.nsIn K mainGlobals "_law_parted" = some (some (.ref a9))) (l9 : K.lookup a9 = some ⟨oc9, od9, .func (PySem.W.fnOf "_law_parted" "_law_parted" (defArgs (top 11)) (defBody (top 11)) (defScope (top 11)) .none kV9 dc9 pm9 an9 cd9 ct9), sl9⟩) (c9 : PySem.W.codeIn K cd9 "_law_parted" = true) (k9 : PySem.W.keepIn K (.ref a9) = true)
    (x10 : PySem.W.nsIn K mainGlobals "_law_saying" = some (some (.ref a10))) (l10 : K.lookup a10 = some ⟨oc10, od10, .func (PySem.W.fnOf "_law_saying" "_law_saying" (defArgs (top 12)) (defBody (top 12)) (defScope (top 12)) .none kV10 dc10 pm10 an10 cd10 ct10), sl10⟩) (c10 : PySem.W.codeIn K cd10 "_law_saying" = true) (k10 : PySem.W.keepIn K (.ref a10) = true)
    (x11 : PySem.W.nsIn K mainGlobals "_law_talk" = some (some (.ref a11))) (l11 : K.lookup a11 = some ⟨oc11, od11, .func (PySem.W.fnOf "_law_talk" "_law_talk" (defArgs (top 13)) (defBody (top 13)) (defScope (top 13)) .none kV11 dc11 pm11 an11 cd11 ct11), sl11⟩) (c11 : PySem.W.codeIn K cd11 "_law_talk" = true) (k11 : PySem.W.keepIn K (.ref a11) = true)
    (x12 : PySem.W.nsIn K mainGlobals "_law_other_bits" = some (some (.ref a12))) (l12 : K.lookup a12 = some ⟨oc12, od12, .func (PySem.W.fnOf "_law_other_bits" "_law_other_bits" (defArgs (top 14)) (defBody (top 14)) (defScope (top 14)) .none kV12 dc12 pm12 an12 cd12 ct12), sl12⟩) (c12 : PySem.W.codeIn K cd12 "_law_other_bits" = true) (k12 : PySem.W.keepIn K (.ref a12) = true)
    (x13 : PySem.W.nsIn K mainGlobals "_law_rising" = some (some (.ref a13))) (l13 : K.lookup a13 = some ⟨oc13, od13, .func (PySem.W.fnOf "_law_rising" "_law_rising" (defArgs (top 15)) (defBody (top 15)) (defScope (top 15)) .none kV13 dc13 pm13 an13 cd13 ct13), sl13⟩) (c13 : PySem.W.codeIn K cd13 "_law_rising" = true) (k13 : PySem.W.keepIn K (.ref a13) = true)
    (x14 : PySem.W.nsIn K mainGlobals "_law_due_saying" = some (some (.ref a14))) (l14 : K.lookup a14 = some ⟨oc14, od14, .func (PySem.W.fnOf "_law_due_saying" "_law_due_saying" (defArgs (top 16)) (defBody (top 16)) (defScope (top 16)) .none kV14 dc14 pm14 an14 cd14 ct14), sl14⟩) (c14 : PySem.W.codeIn K cd14 "_law_due_saying" = true) (k14 : PySem.W.keepIn K (.ref a14) = true)
    (x15 : PySem.W.nsIn K mainGlobals "_law_due_talk" = some (some (.ref a15))) (l15 : K.lookup a15 = some ⟨oc15, od15, .func (PySem.W.fnOf "_law_due_talk" "_law_due_talk" (defArgs (top 17)) (defBody (top 17)) (defScope (top 17)) .none kV15 dc15 pm15 an15 cd15 ct15), sl15⟩) (c15 : PySem.W.codeIn K cd15 "_law_due_talk" = true) (k15 : PySem.W.keepIn K (.ref a15) = true)
    (x16 : PySem.W.nsIn K mainGlobals "_law_same" = some (some (.ref a16))) (l16 : K.lookup a16 = some ⟨oc16, od16, .func (PySem.W.fnOf "_law_same" "_law_same" (defArgs (top 18)) (defBody (top 18)) (defScope (top 18)) .none kV16 dc16 pm16 an16 cd16 ct16), sl16⟩) (c16 : PySem.W.codeIn K cd16 "_law_same" = true) (k16 : PySem.W.keepIn K (.ref a16) = true)
    (x17 : PySem.W.nsIn K mainGlobals "_law_right" = some (some (.ref a17))) (l17 : K.lookup a17 = some ⟨oc17, od17, .func (PySem.W.fnOf "_law_right" "_law_right" (defArgs (top 19)) (defBody (top 19)) (defScope (top 19)) .none kV17 dc17 pm17 an17 cd17 ct17), sl17⟩) (c17 : PySem.W.codeIn K cd17 "_law_right" = true) (k17 : PySem.W.keepIn K (.ref a17) = true)
    (x18 : PySem.W.nsIn K mainGlobals "law" = some (some (.ref a18))) (l18 : K.lookup a18 = some ⟨oc18, od18, .func (PySem.W.fnOf "law" "law" (defArgs (top 20)) (defBody (top 20)) (defScope (top 20)) .none kV18 dc18 pm18 an18 cd18 ct18), sl18⟩) (c18 : PySem.W.codeIn K cd18 "law" = true) (k18 : PySem.W.keepIn K (.ref a18) = true)
    (z0 : PySem.W.nsIn K mainGlobals "abs" = some none)
    (z1 : PySem.W.nsIn K mainGlobals "enumerate" = some none)
    (z2 : PySem.W.nsIn K mainGlobals "int" = some none)
    (z3 : PySem.W.nsIn K mainGlobals "len" = some none)
    (z4 : PySem.W.nsIn K mainGlobals "list" = some none)
    (z5 : PySem.W.nsIn K mainGlobals "max" = some none)
    (z6 : PySem.W.nsIn K mainGlobals "min" = some none)
    (z7 : PySem.W.nsIn K mainGlobals "range" = some none)
    (z8 : PySem.W.nsIn K mainGlobals "repr" = some none)
    (z9 : PySem.W.nsIn K mainGlobals "sorted" = some none)
    (z10 : PySem.W.nsIn K mainGlobals "tuple" = some none)
    : (∀ p ∈ tab.fns, DefOk tab Fs K mg p.1 p.2) ∧ (∀ y ∈ tab.blts, mg y = none) ∧ ∀ p ∈ tab.cons, ∃ t, mg p.1 = some (.int p.2 t) := by
  refine ⟨?_, ?_, ?_⟩
  · intro p hp
    simp only [tab, List.mem_cons, List.not_mem_nil, or_false] at hp
    rcases hp with rfl | rfl | rfl | rfl | rfl | rfl | rfl | rfl | rfl | rfl | rfl | rfl | rfl | rfl | rfl | rfl | rfl | rfl | rfl
    · exact def_mk X G x0 l0 c0 k0 sc0 (fun _ _ _ _ _ _ us hl => match us, hl with | [_, _], _ => rfl) rfl rfl rfl ck0
    · exact def_mk X G x1 l1 c1 k1 sc1 (fun _ _ _ _ _ _ us hl => match us, hl with | [_, _], _ => rfl) rfl rfl rfl ck1
    · exact def_mk X G x2 l2 c2 k2 sc2 (fun _ _ _ _ _ _ us hl => match us, hl with | [_, _], _ => rfl) rfl rfl rfl ck2
    · exact def_mk X G x3 l3 c3 k3 sc3 (fun _ _ _ _ _ _ us hl => match us, hl with | [_, _], _ => rfl) rfl rfl rfl ck3
    · exact def_mk X G x4 l4 c4 k4 sc4 (fun _ _ _ _ _ _ us hl => match us, hl with | [_, _], _ => rfl) rfl rfl rfl ck4
    · exact def_mk X G x5 l5 c5 k5 sc5 (fun _ _ _ _ _ _ us hl => match us, hl with | [_], _ => rfl) rfl rfl rfl ck5
    · exact def_mk X G x6 l6 c6 k6 sc6 (fun _ _ _ _ _ _ us hl => match us, hl with | [_, _], _ => rfl) rfl rfl rfl ck6
    · exact def_mk X G x7 l7 c7 k7 sc7 (fun _ _ _ _ _ _ us hl => match us, hl with | [_], _ => rfl) rfl rfl rfl ck7
    · exact def_mk X G x8 l8 c8 k8 sc8 (fun _ _ _ _ _ _ us hl => match us, hl with | [_, _], _ => rfl) rfl rfl rfl ck8
    · exact def_mk X G x9 l9 c9 k9 sc9 (fun _ _ _ _ _ _ us hl => match us, hl with | [_, _, _], _ => rfl) rfl rfl rfl ck9
    · exact def_mk X G x10 l10 c10 k10 sc10 (fun _ _ _ _ _ _ us hl => match us, hl with | [_, _, _, _], _ => rfl) rfl rfl rfl ck10
    · exact def_mk X G x11 l11 c11 k11 sc11 (fun _ _ _ _ _ _ us hl => match us, hl with | [_, _, _, _], _ => rfl) rfl rfl rfl ck11
    · exact def_mk X G x12 l12 c12 k12 sc12 (fun _ _ _ _ _ _ us hl => match us, hl with | [_, _], _ => rfl) rfl rfl rfl ck12
    · exact def_mk X G x13 l13 c13 k13 sc13 (fun _ _ _ _ _ _ us hl => match us, hl with | [_, _], _ => rfl) rfl rfl rfl ck13
    · exact def_mk X G x14 l14 c14 k14 sc14 (fun _ _ _ _ _ _ us hl => match us, hl with | [_, _], _ => rfl) rfl rfl rfl ck14
    · exact def_mk X G x15 l15 c15 k15 sc15 (fun _ _ _ _ _ _ us hl => match us, hl with | [_, _], _ => rfl) rfl rfl rfl ck15
    · exact def_mk X G x16 l16 c16 k16 sc16 (fun _ _ _ _ _ _ us hl => match us, hl with | [_, _], _ => rfl) rfl rfl rfl ck16
    · exact def_mk X G x17 l17 c17 k17 sc17 (fun _ _ _ _ _ _ us hl => match us, hl with | [_, _, _, _], _ => rfl) rfl rfl rfl ck17
    · exact def_mk X G x18 l18 c18 k18 sc18 (fun _ _ _ _ _ _ us hl => match us, hl with | [_], _ => rfl) rfl rfl rfl ck18
  · intro y hy
    simp only [tab, List.mem_cons, List.not_mem_nil, or_false] at hy
    rcases hy with rfl | rfl | rfl | rfl | rfl | rfl | rfl | rfl | rfl | rfl | rfl
    · exact PySem.W.mg_none_of X G z0
    · exact PySem.W.mg_none_of X G z1
    · exact PySem.W.mg_none_of X G z2
    · exact PySem.W.mg_none_of X G z3
    · exact PySem.W.mg_none_of X G z4
    · exact PySem.W.mg_none_of X G z5
    · exact PySem.W.mg_none_of X G z6
    · exact PySem.W.mg_none_of X G z7
    · exact PySem.W.mg_none_of X G z8
    · exact PySem.W.mg_none_of X G z9
    · exact PySem.W.mg_none_of X G z10
  · intro p hp
    simp [tab] at hp
end Lw
open PySem PySem.W PyProof.Rows
set_option maxRecDepth 100000 in
set_option maxHeartbeats 0 in
theorem PySem.Challenge.cw_unlikeplace_k47_flipped_holds : PySem.Challenge.rw_unlikeplace_k47_flipped.Holds := by
  w_on; o_law; k_head; (case hw => w_witness2)
  k_fill
  refine MP.law_end (l := PySem.Challenge.rw_unlikeplace_k47_flipped) (T := Lw.tab) (XT := []) (Fs := Lw.Fs) (gl := 18) (k := Lw.depth) (x := "_law_script") rfl rfl ⟨rfl, by decide, by decide⟩ (fun w h Y => PySem.W.kIn_of Y) (by decide +kernel) rfl ?F Lw.law_true
  case F =>
    intro w mg fa h KX G hmg
    refine' Lw.all_mk KX G ?x0 ?l0 ?c0 ?k0 ?x1 ?l1 ?c1 ?k1 ?x2 ?l2 ?c2 ?k2 ?x3 ?l3 ?c3 ?k3 ?x4 ?l4 ?c4 ?k4 ?x5 ?l5 ?c5 ?k5 ?x6 ?l6 ?c6 ?k6 ?x7 ?l7 ?c7 ?k7 ?x8 ?l8 ?c8 ?k8 ?x9 ?l9 ?c9 ?k9 ?x10 ?l10 ?c10 ?k10 ?x11 ?l11 ?c11 ?k11 ?x12 ?l12 ?c12 ?k12 ?x13 ?l13 ?c13 ?k13 ?x14 ?l14 ?c14 ?k14 ?x15 ?l15 ?c15 ?k15 ?x16 ?l16 ?c16 ?k16 ?x17 ?l17 ?c17 ?k17 ?x18 ?l18 ?c18 ?k18 ?z0 ?z1 ?z2 ?z3 ?z4 ?z5 ?z6 ?z7 ?z8 ?z9 ?z10
    (case x0 => k_is)
    (case l0 => k_is)
    (case c0 => k_is)
    (case k0 => k_is)
    (case x1 => k_is)
    (case l1 => k_is)
    (case c1 => k_is)
    (case k1 => k_is)
    (case x2 => k_is)
    (case l2 => k_is)
    (case c2 => k_is)
    (case k2 => k_is)
    (case x3 => k_is)
    (case l3 => k_is)
    (case c3 => k_is)
    (case k3 => k_is)
    (case x4 => k_is)
    (case l4 => k_is)
    (case c4 => k_is)
    (case k4 => k_is)
    (case x5 => k_is)
    (case l5 => k_is)
    (case c5 => k_is)
    (case k5 => k_is)
    (case x6 => k_is)
    (case l6 => k_is)
    (case c6 => k_is)
    (case k6 => k_is)
    (case x7 => k_is)
    (case l7 => k_is)
    (case c7 => k_is)
    (case k7 => k_is)
    (case x8 => k_is)
    (case l8 => k_is)
    (case c8 => k_is)
    (case k8 => k_is)
    (case x9 => k_is)
    (case l9 => k_is)
    (case c9 => k_is)
    (case k9 => k_is)
    (case x10 => k_is)
    (case l10 => k_is)
    (case c10 => k_is)
    (case k10 => k_is)
    (case x11 => k_is)
    (case l11 => k_is)
    (case c11 => k_is)
    (case k11 => k_is)
    (case x12 => k_is)
    (case l12 => k_is)
    (case c12 => k_is)
    (case k12 => k_is)
    (case x13 => k_is)
    (case l13 => k_is)
    (case c13 => k_is)
    (case k13 => k_is)
    (case x14 => k_is)
    (case l14 => k_is)
    (case c14 => k_is)
    (case k14 => k_is)
    (case x15 => k_is)
    (case l15 => k_is)
    (case c15 => k_is)
    (case k15 => k_is)
    (case x16 => k_is)
    (case l16 => k_is)
    (case c16 => k_is)
    (case k16 => k_is)
    (case x17 => k_is)
    (case l17 => k_is)
    (case c17 => k_is)
    (case k17 => k_is)
    (case x18 => k_is)
    (case l18 => k_is)
    (case c18 => k_is)
    (case k18 => k_is)
    (case z0 => k_is)
    (case z1 => k_is)
    (case z2 => k_is)
    (case z3 => k_is)
    (case z4 => k_is)
    (case z5 => k_is)
    (case z6 => k_is)
    (case z7 => k_is)
    (case z8 => k_is)
    (case z9 => k_is)
    (case z10 => k_is)

