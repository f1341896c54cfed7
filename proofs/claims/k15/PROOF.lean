import PyProof.Rows.All
import Wide.All
import OpenK.AllK
import Wide.FinOn
import HandS.Base
import HandS.Call
import HandS.List
import HandS.Comp
import HandS.Ends
import HandS.Dict
import HandS.Iter
import HandS.Text
import HandS.More
import HandS.Words
import HandS.WordsList
import HandS.WordsDict
import HandS.WordsExc
import HandS.Defaults
import HandS.Wide
import HandS.Deep
import HandS.TupAny
import HandS.TupMul
import HandS.Style
import HandS.Conv
import HandS.IsInst
import HandS.SortInts
import HandS.FStr
import HandS.Walk
import HandS.Zip
import KE.GoesZip
import KE.GoesMore
import HandS.CallSlots
import HandS.Lambda
import HandS.HeadEnd
import HandS.HeadHook4
import HandS.Head0
import HandS.Head1
import HandS.Head2
import HandS.HeadHook1
import HandS.HeadHook2
import KE.KStateDown
import PySem.Challenge.RW_bytebridge_k15_facts_of_a_record
set_option Elab.async false
set_option linter.all false
set_option maxRecDepth 100000
set_option maxHeartbeats 0
/-! MP: a small Python on pure data, its evaluator. -/
namespace MP
open PySem PySem.Spec PyProof.Rows L2

/-- data -/
inductive D where
  | non | bl (b : Bool) | int (i : Int) | str (x : Str)
  | tup (xs : List D) | lst (xs : List D)
  | dic (ks : List Key) (vs : List D)
  | scr (ns : List Int)

/-- what a variable holds: nothing, a value, a list of its own, a list of its own that a loop walks -/
inductive Slot where
  | un | val (d : D) | own (xs : List D) | lk (xs : List D)

structure Exn where
  c : Str
  ns : List Str
  vs : List D

abbrev Fr := List Slot
inductive Out (α : Type) where
  | ok (a : α) (fr : Fr) | ex (x : Exn) (fr : Fr) | bad
abbrev M (α : Type) := Fr → Out α
def ret {α : Type} (a : α) : M α := fun fr => .ok a fr
def bad {α : Type} : M α := fun _ => .bad
def bndO {α β : Type} (o : Out α) (f : α → M β) : Out β := match o with
  | .ok a fr' => f a fr'
  | .ex x fr' => .ex x fr'
  | .bad => .bad
def bnd {α β : Type} (m : M α) (f : α → M β) : M β := fun fr => bndO (m fr) f
def opt {α : Type} (o : Option α) : M α := match o with
  | some a => ret a
  | none => bad

/-- an operand: a variable that is read when it is wanted, or a value -/
inductive Opd where
  | at (i : Nat) | sl (s : Slot)

def Slot.d? : Slot → Option D
  | .un => none
  | .val d => some d
  | .own xs => some (.lst xs)
  | .lk xs => some (.lst xs)
def Fr.sl (fr : Fr) (i : Nat) : Slot := fr.getD i .un
def opAt (i : Nat) : M Opd := fun fr => match fr.sl i with
  | .un => .bad
  | _ => .ok (.at i) fr
def rdO (o : Opd) : M D := fun fr => match o with
  | .at i => opt (fr.sl i).d? fr
  | .sl s => opt s.d? fr
/-- read to be kept: a list of its own is one no more -/
def cap (i : Nat) : M Slot := fun fr => match (fr.sl i).d? with
  | some d => .ok (.val d) (fr.set i (.val d))
  | none => .bad
/-- the value of a result that is kept -/
def fz (m : M Slot) : M D := bnd m fun s => opt s.d?

/-! ### what operators do -/
inductive Op where
  | add | sub | mul | fdiv | mod | pow | shl | shr | and | or | xor
inductive Cm where
  | eq | ne | lt | le | gt | ge | is | isnot | in_ | notin
  deriving DecidableEq

mutual
def D.eqv : D → D → Bool
  | .non, .non => true
  | .bl a, .bl b => a == b
  | .bl a, .int b => (if a then 1 else 0) == b
  | .int a, .bl b => a == (if b then 1 else 0)
  | .int a, .int b => a == b
  | .str a, .str b => decide (a = b)
  | .tup xs, .tup ys => D.eqvs xs ys
  | .lst xs, .lst ys => D.eqvs xs ys
  | _, _ => false
def D.eqvs : List D → List D → Bool
  | [], [] => true
  | x :: xs, y :: ys => D.eqv x y && D.eqvs xs ys
  | _, _ => false
end
mutual
def D.dep : D → Option Nat
  | .dic _ _ => none
  | .scr _ => none
  | .str x => if PyData.strOk x then some 0 else none
  | .tup xs => (D.deps xs).map (· + 1)
  | .lst xs => (D.deps xs).map (· + 1)
  | _ => some 0
def D.deps : List D → Option Nat
  | [] => some 0
  | x :: xs => match D.dep x, D.deps xs with
    | some a, some b => some (max a b)
    | _, _ => none
end
/-- it may be compared -/
def D.shal (d : D) : Bool := match d.dep with
  | some n => decide (n ≤ 60)
  | none => false

def mulOk (i j : Int) : Bool := (decide (-(2 ^ 64) < i) && decide (i < 2 ^ 64)) || (decide (-(2 ^ 64) < j) && decide (j < 2 ^ 64))
def powOk (i j : Int) : Bool := decide (0 ≤ j) && (decide (j ≤ 1000000) && (decide (-(2 ^ 64) < i) && decide (i < 2 ^ 64)))
def when {α : Type} (c : Bool) (a : α) : Option α := if c then some a else none

def binop (o : Op) (a b : D) : Option Slot := match o, a, b with
  | .add, .int i, .int j => some (.val (.int (i + j)))
  | .sub, .int i, .int j => some (.val (.int (i - j)))
  | .mul, .int i, .int j => when (mulOk i j) (.val (.int (i * j)))
  | .fdiv, .int i, .int j => when (decide (0 < j) && decide (j < 2 ^ 256)) (.val (.int (i / j)))
  | .mod, .int i, .int j => when (decide (0 < j)) (.val (.int (i % j)))
  | .pow, .int i, .int j => when (powOk i j) (.val (.int (i ^ j.toNat)))
  | .shl, .int i, .int j => when (powOk i j) (.val (.int (i * 2 ^ j.toNat)))
  | .shr, .int i, .int j => when (decide (0 ≤ j)) (.val (.int (i / 2 ^ j.toNat)))
  | .and, .int i, .int j => some (.val (.int (Builtin.bitAnd i j)))
  | .or, .int i, .int j => some (.val (.int (Builtin.bitOr i j)))
  | .xor, .int i, .int j => some (.val (.int (Builtin.bitXor i j)))
  | .add, .str x, .str y => when (decide (x.length + y.length ≤ sizeLine)) (.val (.str (x ++ y)))
  | .add, .tup xs, .tup ys => when (decide (xs.length + ys.length ≤ sizeLine)) (.val (.tup (xs ++ ys)))
  | .add, .lst xs, .lst ys => when (decide (xs.length + ys.length ≤ sizeLine)) (.own (xs ++ ys))
  | .mul, .lst xs, .int k => when (decide (-(2 ^ 63) ≤ k) && (decide (k < 2 ^ 63) && decide (xs.length * k.toNat ≤ sizeLine))) (.own (List.replicate k.toNat xs).flatten)
  | .mul, .tup xs, .int k => when (!xs.isEmpty && (decide (2 ≤ k) && (decide (k ≤ 1000) && decide (xs.length ≤ 1000)))) (.val (.tup (List.replicate k.toNat xs).flatten))
  | _, _, _ => none

/-- name op= e -/
def augop (o : Op) (a b : D) : Option Slot := match o, a, b with
  | .add, .int i, .int j => some (.val (.int (i + j)))
  | .sub, .int i, .int j => some (.val (.int (i - j)))
  | _, _, _ => none
def D.isAtom : D → Bool
  | .non => true
  | .bl _ => true
  | .int _ => true
  | .str _ => true
  | _ => false
def inB (d : D) (xs : List D) : Bool := xs.any fun x => D.eqv x d
def keyOf : D → Option Key
  | .int i => some (.inl i)
  | .str x => some (.inr x)
  | _ => none
def dlook (ks : List Key) (vs : List D) (k : Key) : Option D := match ks, vs with
  | k' :: ks, v :: vs => if k' = k then some v else dlook ks vs k
  | _, _ => none
def hasK (k : Key) (ks : List Key) : Bool := ks.any fun j => decide (j = k)
def D.isNon : D → Bool
  | .non => true
  | _ => false
def scalD : D → D → Bool
  | .int _, .int _ => true
  | .bl _, .bl _ => true
  | .str _, .str _ => true
  | .non, .non => true
  | _, _ => false
def cmpop (o : Cm) (a b : D) : Option Bool := match o, a, b with
  | .eq, a, b => if scalD a b then some (D.eqv a b) else when (a.shal && b.shal) (D.eqv a b)
  | .ne, a, b => if scalD a b then some (!D.eqv a b) else when (a.shal && b.shal) (!D.eqv a b)
  | .lt, .int i, .int j => some (decide (i < j))
  | .le, .int i, .int j => some (decide (i ≤ j))
  | .gt, .int i, .int j => some (decide (j < i))
  | .ge, .int i, .int j => some (decide (j ≤ i))
  | .is, a, .non => some a.isNon
  | .isnot, a, .non => some (!a.isNon)
  | .in_, a, .lst xs => when (a.shal && D.shal (.lst xs)) (inB a xs)
  | .in_, a, .tup xs => when (a.isAtom && xs.all D.isAtom) (inB a xs)
  | .notin, a, .lst xs => when (a.shal && D.shal (.lst xs)) (!inB a xs)
  | .notin, a, .tup xs => when (a.isAtom && xs.all D.isAtom) (!inB a xs)
  | .in_, a, .dic ks vs => (keyOf a).map fun k => hasK k ks
  | .notin, a, .dic ks vs => (keyOf a).map fun k => !hasK k ks
  | .in_, .str x, .str y => some (!(Builtin.Str.occurrences y x 0 y.length 1).isEmpty)
  | .notin, .str x, .str y => some (!(!(Builtin.Str.occurrences y x 0 y.length 1).isEmpty))
  | _, _, _ => none

def truth : D → Option Bool
  | .non => some false
  | .bl b => some b
  | .int i => some (i != 0)
  | .str x => when (decide (x.length ≤ sizeLine)) ((x.length : Int) != 0)
  | .tup xs => some (!xs.isEmpty)
  | .lst xs => some (!xs.isEmpty)
  | .dic _ _ => none
  | .scr _ => none

/-- o[i] -/
def index (a b : D) : Option Slot := match a, b with
  | .lst xs, .int i => (atI xs i).map .val
  | .tup xs, .int i => (atI xs i).map .val
  | .str z, .int i => if z.length ≤ sizeLine then (atI z.cps.toList i).map fun c => .val (.str ⟨#[c]⟩) else none
  | .dic ks vs, k => (keyOf k).bind fun k => (dlook ks vs k).map .val
  | _, _ => none
def cutD {α : Type} (xs : List α) (lo hi : Option Int) : List α := (xs.drop (HT.sIx xs.length 0 lo)).take (HT.sIx xs.length xs.length hi - HT.sIx xs.length 0 lo)
def slice (a : D) (lo hi : Option Int) : Option Slot := match a with
  | .lst xs => some (.own (cutD xs lo hi))
  | .tup xs => some (.val (.tup (cutD xs lo hi)))
  | _ => none
def intsOf : List D → Option (List Int)
  | [] => some []
  | .int i :: r => (intsOf r).map (i :: ·)
  | _ :: _ => none
def blsOf : List D → Option (List Bool)
  | [] => some []
  | .bl i :: r => (blsOf r).map (i :: ·)
  | _ :: _ => none
def maxL (xs : List Int) : Option Int := match xs with
  | [] => none
  | x :: r => some (r.foldl max x)
def minL (xs : List Int) : Option Int := match xs with
  | [] => none
  | x :: r => some (r.foldl min x)

/-- built-in functions -/
inductive Bi where
  | len | abs | int | str | max | min | sum | any | all | list | tuple | sorted
inductive Ty where
  | int | bool | str | list | tuple
def seqOf : D → Option (List D)
  | .lst xs => some xs
  | .tup xs => some xs
  | _ => none
def D.isTy : D → Ty → Option Bool
  | .int _, .int => some true
  | .bl _, .int => some true
  | .bl _, .bool => some true
  | .str _, .str => some true
  | .lst _, .list => some true
  | .tup _, .tuple => some true
  | .dic _ _, _ => none
  | .scr _, _ => none
  | _, _ => some false
def isort (xs : List Int) : List Int := xs.mergeSort (fun a b => decide (a ≤ b))
def bi (b : Bi) (ds : List D) : Option Slot := match b, ds with
  | .len, [.lst xs] => some (.val (.int xs.length))
  | .len, [.scr xs] => some (.val (.int xs.length))
  | .len, [.tup xs] => some (.val (.int xs.length))
  | .len, [.str x] => when (decide (x.length ≤ sizeLine)) (.val (.int x.length))
  | .abs, [.int i] => some (.val (.int (if i < 0 then -i else i)))
  | .int, [.int i] => some (.val (.int i))
  | .int, [.bl b] => some (.val (.int (if b then 1 else 0)))
  | .str, [.int i] => when (decide (i.natAbs.log2 < 1920)) (.val (.str (toString i)))
  | .max, [.int i, .int j] => some (.val (.int (if j > i then j else i)))
  | .min, [.int i, .int j] => some (.val (.int (if j < i then j else i)))
  | .max, [.lst xs] => (intsOf xs).bind fun ns => (maxL ns).map fun m => .val (.int m)
  | .min, [.lst xs] => (intsOf xs).bind fun ns => (minL ns).map fun m => .val (.int m)
  | .sum, [.lst xs] => (intsOf xs).map fun ns => .val (.int ns.sum)
  | .any, [.lst xs] => (blsOf xs).map fun bs => .val (.bl (bs.any id))
  | .all, [.lst xs] => (blsOf xs).map fun bs => .val (.bl (bs.all id))
  | .list, [.lst xs] => some (.own xs)
  | .list, [.tup xs] => some (.own xs)
  | .list, [.scr ns] => some (.own (ns.map .int))
  | .tuple, [.lst xs] => some (.val (.tup xs))
  | .tuple, [.tup xs] => some (.val (.tup xs))
  | .sorted, [.lst xs] => (intsOf xs).map fun ns => .own ((isort ns).map .int)
  | _, _ => none

/-- methods that change nothing -/
inductive Mt where
  | endswith | split | join | index | get | lower | startswith
def strsOf : List D → Option (List Str)
  | [] => some []
  | .str i :: r => (strsOf r).map (i :: ·)
  | _ :: _ => none
def findE (d : D) : List D → Option Nat
  | [] => none
  | x :: r => if D.eqv x d then some 0 else (findE d r).map (· + 1)
def Mt.tyOk : Mt → D → Bool
  | .get, .dic _ _ => true
  | .index, .lst _ => true
  | .endswith, .str _ => true
  | .startswith, .str _ => true
  | .split, .str _ => true
  | .join, .str _ => true
  | .lower, .str _ => true
  | _, _ => false
def mt (m : Mt) (o : D) (ds : List D) : Option Slot := match m, o, ds with
  | .endswith, .str x, [.str y] => some (.val (.bl (Txt.endswith x y)))
  | .startswith, .str x, [.str y] => some (.val (.bl (Txt.startswith x y)))
  | .split, .str x, [.str y] => when (decide ((y.length == 0) = false) && decide (x.length + 2 ≤ sizeLine)) (.own ((Txt.split x y).map .str))
  | .join, .str x, [.lst ds] => (strsOf ds).bind fun ys => when (decide ((ys.map (·.length)).sum + ys.length * x.length ≤ 16777216)) (.val (.str (Txt.join x ys)))
  | .index, .lst xs, [d] => if D.shal (.lst xs) && d.shal then (findE d xs).map fun n => .val (.int n) else none
  | .get, .dic ks vs, [k] => (keyOf k).map fun k => .val ((dlook ks vs k).getD .non)
  | _, _, _ => none

/-! ### the text -/
inductive Tg where
  | v (i : Nat) | tup (ts : List Tg)
inductive E where
  | var (i : Nat) | int (i : Int) | str (s : String) | bl (b : Bool) | non | glo (g : Nat)
  | tup (es : List E) | lst (es : List E) | dic (ks : List Key) (es : List E)
  | bin (o : Op) (a b : E) | neg (a : E)
  | not (a : E) | and (a b : E) | or (a b : E) | cmp (o : Cm) (a b : E) | cmp2 (o p : Cm) (a b c : E) | ite (c a b : E)
  | ix (a b : E) | kix (g : Nat) (a : E) | sl (a : E) (lo hi : List E) | rev (a : E)
  | call (f : Nat) (es : List E) | bi (b : Bi) (es : List E) | isi (t : Ty) (e : E) | mt (m : Mt) (o : E) (es : List E)
  | app (i : Nat) (e : E) | ext (i : Nat) (e : E) | pop (i : Nat) | revm (i : Nat) | ins (i : Nat) (a b : E)
  | rng (es : List E) | enu (e : E) | zip (es : List E) | lrng (es : List E)
  | lc (el : E) (t : Tg) (it : E) (ifs : List E) (own : List Nat)
  | lc2 (el : E) (t : Tg) (it : E) (ifs : List E) (t2 : Tg) (it2 : E) (ifs2 : List E) (own : List Nat) (own2 : List Nat)
  | fs (es : List E)
inductive S where
  | asg (i : Nat) (e : E) | asgT (ts : List Tg) (e : E) | par (ts : List Nat) (es : List E)
  | aug (i : Nat) (o : Op) (e : E)
  | setix (i : Nat) (k e : E) | setsl (i : Nat) (lo hi : E) (e : E)
  | ex (e : E) | ite (c : E) (a b : List S) | for_ (t : Tg) (it : E) (b : List S) | whl (c : E) (b : List S)
  | ret (e : E) | retN | brk | cont | pass | never
/-- a def: how many slots, its parameters: which are lent to it to be changed -/
structure Fn where
  ns : Nat
  io : List Bool
  body : List S

/-! ### the evaluator -/
mutual
def asgT : Tg → D → M Unit
  | .v i, d => fun fr => .ok () (fr.set i (.val d))
  | .tup ts, .tup ds => asgTs ts ds
  | .tup _, _ => bad
def asgTs : List Tg → List D → M Unit
  | [], [] => ret ()
  | t :: ts, d :: ds => bnd (asgT t d) fun _ => asgTs ts ds
  | _, _ => bad
end
/-- items that are walked; the variables that are locked meanwhile -/
abbrev Itm := List D × List Nat
def seqI : D → Option (List D)
  | .lst xs => some xs
  | .tup xs => some xs
  | .scr ns => some (ns.map .int)
  | .str x => when (decide (x.length ≤ sizeLine)) (x.cps.toList.map fun c => .str ⟨#[c]⟩)
  | _ => none
def itO (o : Opd) : M Itm := fun fr => match o with
  | .at i => (match fr.sl i with
    | .own xs => .ok (xs, [i]) (fr.set i (.lk xs))
    | s => opt ((s.d?.bind seqI).map fun xs => (xs, [])) fr)
  | .sl s => opt ((s.d?.bind seqI).map fun xs => (xs, [])) fr
def unlk : List Nat → Fr → Fr
  | [], fr => fr
  | i :: r, fr => unlk r (match fr.sl i with
    | .lk xs => fr.set i (.own xs)
    | _ => fr)
def inRg (i : Int) : Bool := decide (-(2 ^ 62) ≤ i) && decide (i < 2 ^ 62)
def upto (lo : Int) : Nat → List D
  | 0 => []
  | n + 1 => .int lo :: upto (lo + 1) n
def rngI : List D → Option (List D)
  | [.int j] => when (inRg j) (upto 0 j.toNat)
  | [.int i, .int j] => when (inRg i && inRg j) (upto i (j - i).toNat)
  | _ => none
def enuI (lo : Int) : List D → List D
  | [] => []
  | x :: r => .tup [.int lo, x] :: enuI (lo + 1) r
def zip2I : List D → List D → List D
  | x :: xs, y :: ys => .tup [x, y] :: zip2I xs ys
  | _, _ => []
def zip3I : List D → List D → List D → List D
  | x :: xs, y :: ys, z :: zs => .tup [x, y, z] :: zip3I xs ys zs
  | _, _, _ => []
def enuOk : D → Bool
  | .lst _ => true
  | .tup _ => true
  | _ => false
def rowOf : D → Option (List D)
  | .lst xs => some xs
  | .tup xs => some xs
  | _ => none
def zipV : List D → Option (List D)
  | [a, b] => (rowOf a).bind fun xs => (rowOf b).map fun ys => zip2I xs ys
  | _ => none

/-- what a text is worth: its value, as a test, as an operand, as what is walked -/
structure Ev where
  v : M Slot
  t : M Bool
  o : M Opd
  i : M Itm
def tru (s : Slot) : M Bool := opt (s.d?.bind truth)
def Ev.mk1 (v : M Slot) : Ev := ⟨v, bnd v tru, bnd v fun s => ret (.sl s), bnd v fun s => itO (.sl s)⟩
def Ev.mkT (t : M Bool) : Ev :=
  let v : M Slot := bnd t fun b => ret (.val (.bl b))
  ⟨v, t, bnd v fun s => ret (.sl s), bad⟩
def Ev.mkI (i : M Itm) : Ev := ⟨bad, bad, bad, i⟩
def isB (s : Slot) : M Bool := match s with
  | .val (.bl b) => ret b
  | _ => bad
/-- operands, one after another; then read -/
def opds : List Ev → M (List Opd)
  | [] => ret []
  | e :: r => bnd e.o fun x => bnd (opds r) fun xs => ret (x :: xs)
def rdOs : List Opd → M (List D)
  | [] => ret []
  | x :: r => bnd (rdO x) fun d => bnd (rdOs r) fun ds => ret (d :: ds)
def itOs : List Opd → M (List (List D) × List Nat)
  | [] => ret ([], [])
  | x :: r => bnd (itO x) fun p => bnd (itOs r) fun q => ret (p.1 :: q.1, p.2 ++ q.2)
def vals : List Ev → M (List D)
  | [] => ret []
  | e :: r => bnd (fz e.v) fun d => bnd (vals r) fun ds => ret (d :: ds)
/-- arguments of a call: a lent variable, or a value -/
def args : List Bool → List Ev → M (List Opd)
  | _, [] => ret []
  | io, e :: r => bnd (match io with
    | true :: _ => e.o
    | _ => bnd e.v fun s => ret (.sl s)) fun x => bnd (args io.tail r) fun xs => ret (x :: xs)
def take1 : Opd → M Slot
  | .at i => fun fr => .ok (fr.sl i) (fr.set i .un)
  | .sl s => ret s
def takes : List Opd → M (List Slot)
  | [] => ret []
  | x :: r => bnd (take1 x) fun s => bnd (takes r) fun ss => ret (s :: ss)
def backs : List Opd → List Slot → Fr → Fr
  | .at i :: r, s :: ss, fr => backs r ss (fr.set i s)
  | .sl _ :: r, _ :: ss, fr => backs r ss fr
  | _, _, fr => fr
/-- what a call gives: its answer, the parameters as they stand behind -/
inductive COut where
  | ok (s : Slot) (ps : List Slot) | ex (x : Exn) (ps : List Slot) | bad
abbrev Calls := Nat → List Slot → COut
def callM (c : List Slot → COut) (os : List Opd) : M Slot := bnd (takes os) fun ss fr => match c ss with
  | .ok s ps => .ok s (backs os ps fr)
  | .ex x ps => .ex x (backs os ps fr)
  | .bad => .bad
def part (xs : List (M D)) : M (Option Int) := match xs with
  | [] => ret none
  | m :: _ => bnd m fun d => match d with
    | .int i => ret (some i)
    | _ => bad
def wipeF (own : List Nat) (fr : Fr) : Fr := own.foldr (fun i fr => fr.set i .un) fr
def putF (own : List Nat) (old fr : Fr) : Fr := own.foldr (fun i fr => fr.set i (old.sl i)) fr
def ifsM : List Ev → M Bool
  | [] => ret true
  | e :: r => bnd e.t fun b => if b then ifsM r else ret false
/-- the block of a comprehension, item by item -/
def lcL (own : List Nat) (tgt : D → M Unit) (ifs : M Bool) (el : M (List D)) : List D → M (List D)
  | [] => ret []
  | x :: r => bnd (fun fr => tgt x (wipeF own fr)) fun _ => bnd ifs fun b => bnd (if b then el else ret []) fun d => bnd (lcL own tgt ifs el r) fun ds => ret (d ++ ds)
def lcE (own : List Nat) (fr : Fr) (lk : List Nat) : Out (List D) → Out (List D)
  | .ok ds fr' => if ds.length < sizeLine then .ok ds (unlk lk (putF own fr fr')) else .bad
  | _ => .bad
def lcM (own : List Nat) (it : M Itm) (tgt : D → M Unit) (ifs : M Bool) (el : M (List D)) : M (List D) := bnd it fun p fr => lcE own fr p.2 (lcL own tgt ifs el p.1 fr)
def strOf : D → Option Str
  | .str x => when (decide (x.length ≤ sizeLine)) x
  | .int i => when (decide (i.natAbs.log2 < 1920)) (toString i)
  | _ => none
def fsM : List Ev → Str → M Str
  | [], acc => ret acc
  | e :: r, acc => bnd (fz e.v) fun d => bnd (opt (strOf d)) fun x => if (acc ++ x).length ≤ sizeLine then fsM r (acc ++ x) else bad
def revK (d : D) : M Slot := match d with
  | .lst xs => ret (.own xs.reverse)
  | .tup xs => ret (.val (.tup xs.reverse))
  | _ => bad
def ownAt (i : Nat) : M Unit := fun fr => match fr.sl i with
  | .own _ => .ok () fr
  | _ => .bad
def chg (i : Nat) (f : List D → Option (Slot × List D)) : M Slot := fun fr => match fr.sl i with
  | .own xs => (match f xs with
    | some (s, ys) => .ok s (fr.set i (.own ys))
    | none => .bad)
  | _ => .bad
def setAt (i : Nat) (d kd : D) : M Slot := match kd with
  | .int n => chg i fun xs => (ixN xs.length n).map fun j => (.val .non, xs.set j d)
  | _ => bad
/-- the module's constants -/
structure Prg where
  fns : List Fn
  glo : List D
  dct : List (List (Str × D))
def look (kvs : List (Str × D)) (z : Str) : Option D := match kvs with
  | [] => none
  | (k, d) :: r => if k = z then some d else look r z
def kixD (t : Option (List (Str × D))) : D → Option Slot
  | .str z => t.bind fun kvs => (look kvs z).map .val
  | _ => none
def Prg.io (P : Prg) (f : Nat) : List Bool := match P.fns[f]? with
  | some d => d.io
  | none => []
section
variable (P : Prg) (cl : Calls)
mutual
def ev : E → Ev
  | .var i => ⟨cap i, fun fr => opt ((fr.sl i).d?.bind truth) fr, opAt i, itO (.at i)⟩
  | .int i => .mk1 (ret (.val (.int i)))
  | .str s => .mk1 (ret (.val (.str (Str.ofString s))))
  | .bl b => .mk1 (ret (.val (.bl b)))
  | .non => .mk1 (ret (.val .non))
  | .glo g => .mk1 (opt (P.glo[g]?.map .val))
  | .tup es => .mk1 (bnd (vals (evs es)) fun ds => if ds.length ≤ sizeLine then ret (.val (.tup ds)) else bad)
  | .lst es => .mk1 (bnd (vals (evs es)) fun ds => if ds.length ≤ sizeLine then ret (.own ds) else bad)
  | .dic ks es => .mk1 (bnd (vals (evs es)) fun ds => if ds.length = ks.length then ret (.val (.dic ks ds)) else bad)
  | .bin o a b => .mk1 (bnd (ev a).o fun x => bnd (ev b).o fun y => bnd (rdO x) fun d => bnd (rdO y) fun e => opt (binop o d e))
  | .neg a => .mk1 (bnd (ev a).o fun x => bnd (rdO x) fun d => match d with
    | .int i => ret (.val (.int (-i)))
    | _ => bad)
  | .not a =>
    let v : M Slot := bnd (ev a).v fun s => bnd (isB s) fun b => ret (.val (.bl (!b)))
    ⟨v, bnd (ev a).t fun b => ret (!b), bnd v fun s => ret (.sl s), bad⟩
  | .and a b =>
    let v : M Slot := bnd (ev a).v fun s => bnd (isB s) fun c => if c then (ev b).v else ret (.val (.bl false))
    ⟨v, bnd (ev a).t fun c => if c then (ev b).t else ret false, bnd v fun s => ret (.sl s), bad⟩
  | .or a b =>
    let v : M Slot := bnd (ev a).v fun s => bnd (isB s) fun c => if c then ret (.val (.bl true)) else (ev b).v
    ⟨v, bnd (ev a).t fun c => if c then ret true else (ev b).t, bnd v fun s => ret (.sl s), bad⟩
  | .cmp o a b => .mkT (bnd (ev a).o fun x => bnd (ev b).o fun y => bnd (rdO x) fun d => bnd (rdO y) fun e => opt (cmpop o d e))
  | .cmp2 o p a b c => .mkT (bnd (ev a).o fun x => bnd (ev b).o fun y => bnd (rdO x) fun d => bnd (rdO y) fun e => bnd (opt (cmpop o d e)) fun r =>
      if r then bnd (ev c).o fun z => bnd (rdO y) fun e => bnd (rdO z) fun f => opt (cmpop p e f) else ret false)
  | .ite c a b =>
    let v : M Slot := bnd (ev c).t fun r => if r then (ev a).v else (ev b).v
    ⟨v, bad, bnd v fun s => ret (.sl s), bnd v fun s => itO (.sl s)⟩
  | .ix a b => .mk1 (bnd (ev a).o fun x => bnd (ev b).o fun y => bnd (rdO x) fun d => bnd (rdO y) fun e => opt (index d e))
  | .kix g a => .mk1 (bnd (ev a).o fun y => bnd (rdO y) fun d => opt (kixD P.dct[g]? d))
  | .sl a lo hi => .mk1 (bnd (ev a).o fun x => bnd (part ((evs lo).map fun e => fz e.v)) fun l => bnd (part ((evs hi).map fun e => fz e.v)) fun h => bnd (rdO x) fun d => opt (slice d l h))
  | .rev a => .mk1 (bnd (ev a).o fun x => bnd (rdO x) revK)
  | .call f es => .mk1 (bnd (args (P.io f) (evs es)) fun os => callM (cl f) os)
  | .bi b es => .mk1 (bnd (opds (evs es)) fun os => bnd (rdOs os) fun ds => opt (bi b ds))
  | .isi t e => .mk1 (bnd (ev e).o fun x => bnd (rdO x) fun d => bnd (opt (d.isTy t)) fun b => ret (.val (.bl b)))
  | .mt m o es => .mk1 (bnd (ev o).o fun x => bnd (rdO x) fun d0 => if m.tyOk d0 then bnd (opds (evs es)) fun os => bnd (rdO x) fun d => bnd (rdOs os) fun ds => opt (mt m d ds) else bad)
  | .app i e => .mk1 (bnd (ownAt i) fun _ => bnd (fz (ev e).v) fun d => chg i fun xs => when (decide (xs.length < sizeLine)) (.val .non, xs ++ [d]))
  | .ext i e => .mk1 (bnd (ownAt i) fun _ => bnd (ev e).o fun x => bnd (rdO x) fun d => match d with
    | .lst ys => chg i fun xs => when (decide (xs.length + ys.length ≤ sizeLine)) (.val .non, xs ++ ys)
    | _ => bad)
  | .pop i => .mk1 (bnd (ownAt i) fun _ => chg i fun xs => xs[xs.length - 1]?.map fun d => (.val d, xs.dropLast))
  | .revm i => .mk1 (bnd (ownAt i) fun _ => chg i fun xs => some (.val .non, xs.reverse))
  | .ins i a b => .mk1 bad
  | .rng es => .mkI (bnd (opds (evs es)) fun os => bnd (rdOs os) fun ds => bnd (opt (rngI ds)) fun xs => ret (xs, []))
  | .lrng es => .mk1 (bnd (opds (evs es)) fun os => bnd (rdOs os) fun ds => bnd (opt (rngI ds)) fun xs => if xs.length ≤ sizeLine then ret (.own xs) else bad)
  | .enu e => .mkI (bnd (ev e).o fun x => bnd (rdO x) fun d => if enuOk d then bnd (itO x) fun p => ret (enuI 0 p.1, p.2) else bad)
  | .zip es => .mkI (bnd (vals (evs es)) fun ds => bnd (opt (zipV ds)) fun xs => ret (xs, []))
  | .lc el t it ifs own => .mk1 (bnd (lcM own (ev it).i (asgT t) (ifsM (evs ifs)) (bnd (fz (ev el).v) fun d => ret [d])) fun ds => ret (.own ds))
  | .lc2 el t it ifs t2 it2 ifs2 own own2 => .mk1 (bnd (lcM own (ev it).i (asgT t) (ifsM (evs ifs))
      (lcM own2 (ev it2).i (asgT t2) (ifsM (evs ifs2)) (bnd (fz (ev el).v) fun d => ret [d]))) fun ds => ret (.own ds))
  | .fs es => .mk1 (bnd (fsM (evs es) Str.empty) fun x => ret (.val (.str x)))
def evs : List E → List Ev
  | [] => []
  | e :: r => ev e :: evs r
end
end

/-- how a statement ends -/
inductive SOut where
  | nx (fr : Fr) | rt (s : Slot) (fr : Fr) | bk (fr : Fr) | ct (fr : Fr) | ex (x : Exn) (fr : Fr) | bad
def thenS {α : Type} (m : M α) (f : α → Fr → SOut) : Fr → SOut := fun fr => match m fr with
  | .ok a fr' => f a fr'
  | .ex x fr' => .ex x fr'
  | .bad => .bad
def seqS (o : SOut) (f : Fr → SOut) : SOut := match o with
  | .nx fr => f fr
  | o => o
def onFr (f : Fr → Fr) : SOut → SOut
  | .nx fr => .nx (f fr)
  | .bk fr => .bk (f fr)
  | .ct fr => .ct (f fr)
  | .rt s fr => .rt s (f fr)
  | .ex x fr => .ex x (f fr)
  | .bad => .bad
def forL (tgt : D → M Unit) (body : Fr → SOut) : List D → Fr → SOut
  | [], fr => .nx fr
  | x :: r, fr => match thenS (tgt x) (fun _ => body) fr with
    | .nx fr' => forL tgt body r fr'
    | .ct fr' => forL tgt body r fr'
    | .bk fr' => .nx fr'
    | o => o
def whlL (c : M Bool) (body : Fr → SOut) : Nat → Fr → SOut
  | 0, _ => .bad
  | n + 1, fr => thenS c (fun b fr => if b then (match body fr with
    | .nx fr' => whlL c body n fr'
    | .ct fr' => whlL c body n fr'
    | .bk fr' => .nx fr'
    | o => o) else .nx fr) fr
/-- an answer is handed on: a list of one's own leaves its variable -/
def retV (e : E) (v : M Slot) : M Slot := match e with
  | .var i => fun fr => match fr.sl i with
    | .own xs => .ok (.own xs) (fr.set i .un)
    | _ => cap i fr
  | _ => v
def sets : List Nat → List D → Fr → Fr
  | i :: is, d :: ds, fr => sets is ds (fr.set i (.val d))
  | _, _, fr => fr
section
variable (P : Prg) (cl : Calls) (wn : Nat)
mutual
def evS : S → Fr → SOut
  | .asg i e => thenS (ev P cl e).v fun s fr => .nx (fr.set i s)
  | .asgT ts e => thenS (bnd (ev P cl e).o fun x => bnd (rdO x) fun d => asgT (.tup ts) d) fun _ fr => .nx fr
  | .par ts es => thenS (vals (evs P cl es)) fun ds fr => if ds.length = ts.length then .nx (sets ts ds fr) else .bad
  | .aug i o e => thenS (bnd (opAt i) fun x => bnd (ev P cl e).o fun y => bnd (rdO x) fun d => bnd (rdO y) fun e => opt (augop o d e)) fun s fr => .nx (fr.set i s)
  | .setix i k e => thenS (bnd (fz (ev P cl e).v) fun d => bnd (ownAt i) fun _ => bnd (ev P cl k).o fun y => bnd (rdO y) fun kd => setAt i d kd) fun _ fr => .nx fr
  | .setsl .. => fun _ => .bad
  | .ex e => thenS (ev P cl e).v fun _ fr => .nx fr
  | .ite c a b => thenS (ev P cl c).t fun r fr => if r then evB a fr else evB b fr
  | .for_ t it b => thenS (ev P cl it).i fun p fr => onFr (unlk p.2) (forL (asgT t) (evB b) p.1 fr)
  | .whl c b => whlL (ev P cl c).t (evB b) wn
  | .ret e => thenS (retV e (ev P cl e).v) fun s fr => .rt s fr
  | .retN => fun fr => .rt (.val .non) fr
  | .brk => .bk
  | .cont => .ct
  | .pass => .nx
  | .never => fun _ => .bad
def evB : List S → Fr → SOut
  | [], fr => .nx fr
  | s :: r, fr => seqS (evS s fr) (evB r)
end
end
/-- what is handed back of the parameters: those that were lent -/
def lent : List Bool → Fr → List Slot
  | b :: io, s :: fr => (if b then s else .un) :: lent io fr
  | _, _ => []
/-- a def's call -/
def endF (io : List Bool) : SOut → COut
  | .nx fr => .ok (.val .non) (lent io fr)
  | .rt s fr => .ok s (lent io fr)
  | .ex x fr => .ex x (lent io fr)
  | _ => .bad
def runF (P : Prg) (cl : Calls) (wn : Nat) (f : Fn) (as : List Slot) : COut :=
  if as.length = f.io.length then endF f.io (evB P cl wn f.body (as ++ List.replicate (f.ns - f.io.length) .un)) else .bad
def callF (P : Prg) (wn : Nat) : Nat → Calls
  | 0 => fun _ _ => .bad
  | k + 1 => fun f as => match P.fns[f]? with
    | some d => runF P (callF P wn k) wn d as
    | none => .bad
end MP

/-! MP: data in the heap. -/
namespace MP
open PySem PySem.Spec PyProof.Rows L2

abbrev FS := Addr → Prop
abbrev Sg := L2.St
def KT (K : PySem.W.Frag) (a : Addr) (xs : List V) : Prop :=
  ∃ (o : Obj) (its : Array Value) (n : Nat), K.lookup a = some o ∧ o.cls = .type "tuple" ∧ o.data = .seq its n ∧ its.size ≤ sizeLine ∧ Vals xs its.toList
def LAt (K : PySem.W.Frag) (H : Hp) (F : FS) (a : Addr) (xs : List V) : Prop := F a ∧ H a = some (.lst xs)
def TAt (K : PySem.W.Frag) (H : Hp) (F : FS) (a : Addr) (xs : List V) : Prop := (F a ∧ H a = some (.tup xs)) ∨ KT K a xs
/-- a list that no one changes (the script) -/
def SAt (K : PySem.W.Frag) (H : Hp) (F : FS) (a : Addr) (xs : List V) : Prop := (F a ∧ Rd H a (.lst xs)) ∨
  ∃ (o : Obj) (its : Array Value) (n : Nat), K.lookup a = some o ∧ o.cls = .type "list" ∧ o.dict = none ∧ o.data = .seq its n ∧ its.size ≤ sizeLine ∧ Vals xs its.toList
def DAt (H : Hp) (F : FS) (a : Addr) (kvs : List (Key × V)) : Prop := F a ∧ H a = some (.dK kvs)
mutual
/-- v is d, and stays so -/
inductive Rep (K : PySem.W.Frag) (H : Hp) (F : FS) : V → D → Prop
  | non : Rep K H F .non .non
  | bl (b : Bool) : Rep K H F (.bl b) (.bl b)
  | int (i : Int) : Rep K H F (.int i) (.int i)
  | str (x : Str) : Rep K H F (.str x) (.str x)
  | tup {a : Addr} {vs : List V} {ds : List D} : TAt K H F a vs → Reps K H F vs ds → Rep K H F (.ref a) (.tup ds)
  | lst {a : Addr} {vs : List V} {ds : List D} : LAt K H F a vs → Reps K H F vs ds → Rep K H F (.ref a) (.lst ds)
  | scr {a : Addr} {ns : List Int} : SAt K H F a (ns.map V.int) → Rep K H F (.ref a) (.scr ns)
  | dic {a : Addr} {ks : List Key} {vs : List V} {ds : List D} : DAt H F a (ks.zip vs) → ks.length = vs.length → ks.Nodup → Reps K H F vs ds → Rep K H F (.ref a) (.dic ks ds)
inductive Reps (K : PySem.W.Frag) (H : Hp) (F : FS) : List V → List D → Prop
  | nil : Reps K H F [] []
  | cons {v : V} {vs : List V} {d : D} {ds : List D} : Rep K H F v d → Reps K H F vs ds → Reps K H F (v :: vs) (d :: ds)
end
section
variable {K : PySem.W.Frag} {H H' : Hp} {F F' : FS} {a : Addr} {v : V} {vs ws : List V} {d : D} {ds es : List D}
theorem LAt.mono (h : LAt K H F a vs) (hs : ∀ a, F a → F' a) (hk : ∀ a, F a → H' a = H a) : LAt K H' F' a vs :=
  ⟨hs a h.1, (hk a h.1).trans h.2⟩
theorem TAt.mono (h : TAt K H F a vs) (hs : ∀ a, F a → F' a) (hk : ∀ a, F a → H' a = H a) : TAt K H' F' a vs := by
  rcases h with ⟨f, r⟩ | h
  · exact .inl ⟨hs a f, (hk a f).trans r⟩
  · exact .inr h
theorem DAt.mono {kvs : List (Key × V)} (h : DAt H F a kvs) (hs : ∀ a, F a → F' a) (hk : ∀ a, F a → H' a = H a) : DAt H' F' a kvs :=
  ⟨hs a h.1, (hk a h.1).trans h.2⟩
theorem rdMono {u : HO} (r : Rd H a u) (f : F a) (hk : ∀ a, F a → H' a = H a) : Rd H' a u := by
  unfold Rd at *
  rw [hk a f]; exact r
theorem SAt.mono (h : SAt K H F a vs) (hs : ∀ a, F a → F' a) (hk : ∀ a, F a → H' a = H a) : SAt K H' F' a vs := by
  rcases h with ⟨f, r⟩ | h
  · exact .inl ⟨hs a f, rdMono r f hk⟩
  · exact .inr h
theorem SAt.sql (h : SAt K H F a vs) : SqL K H a vs := h.elim (fun h => .inl h.2) .inr
mutual
theorem Rep.mono (hs : ∀ a, F a → F' a) (hk : ∀ a, F a → H' a = H a) : ∀ {v : V} {d : D}, Rep K H F v d → Rep K H' F' v d
  | _, _, .non => .non
  | _, _, .bl b => .bl b
  | _, _, .int b => .int b
  | _, _, .str b => .str b
  | _, _, .tup h r => .tup (h.mono hs hk) (Reps.mono hs hk r)
  | _, _, .lst h r => .lst (h.mono hs hk) (Reps.mono hs hk r)
  | _, _, .scr r => .scr (r.mono hs hk)
  | _, _, .dic h l n r => .dic (h.mono hs hk) l n (Reps.mono hs hk r)
theorem Reps.mono (hs : ∀ a, F a → F' a) (hk : ∀ a, F a → H' a = H a) : ∀ {v : List V} {d : List D}, Reps K H F v d → Reps K H' F' v d
  | _, _, .nil => .nil
  | _, _, .cons h r => .cons (Rep.mono hs hk h) (Reps.mono hs hk r)
end
theorem Reps.length : ∀ {vs : List V} {ds : List D}, Reps K H F vs ds → vs.length = ds.length
  | _, _, .nil => rfl
  | _, _, .cons _ r => by simp [Reps.length r]
theorem Reps.get : ∀ {vs : List V} {ds : List D}, Reps K H F vs ds → ∀ {i : Nat} {d : D}, ds[i]? = some d → ∃ v, vs[i]? = some v ∧ Rep K H F v d
  | _, _, .nil, i, d, e => by simp at e
  | _, _, .cons h r, 0, d, e => by simp at e; subst e; exact ⟨_, rfl, h⟩
  | _, _, .cons h r, i + 1, d, e => by
    obtain ⟨v, e1, h1⟩ := Reps.get r (i := i) (d := d) (by simpa using e)
    exact ⟨v, by simpa using e1, h1⟩
theorem Reps.getV : ∀ {vs : List V} {ds : List D}, Reps K H F vs ds → ∀ {i : Nat} {v : V}, vs[i]? = some v → ∃ d, ds[i]? = some d ∧ Rep K H F v d
  | _, _, .nil, i, d, e => by simp at e
  | _, _, .cons h r, 0, d, e => by simp at e; subst e; exact ⟨_, rfl, h⟩
  | _, _, .cons h r, i + 1, d, e => by
    obtain ⟨v, e1, h1⟩ := Reps.getV r (i := i) (v := d) (by simpa using e)
    exact ⟨v, by simpa using e1, h1⟩
theorem Reps.append : ∀ {vs ws : List V} {ds es : List D}, Reps K H F vs ds → Reps K H F ws es → Reps K H F (vs ++ ws) (ds ++ es)
  | _, _, _, _, .nil, s => s
  | _, _, _, _, .cons h r, s => .cons h (Reps.append r s)
theorem Reps.take : ∀ {vs : List V} {ds : List D} (n : Nat), Reps K H F vs ds → Reps K H F (vs.take n) (ds.take n)
  | _, _, 0, _ => by simp; exact .nil
  | _, _, n + 1, .nil => by simp; exact .nil
  | _, _, n + 1, .cons h r => by simp only [List.take_succ_cons]; exact .cons h (Reps.take n r)
theorem Reps.drop : ∀ {vs : List V} {ds : List D} (n : Nat), Reps K H F vs ds → Reps K H F (vs.drop n) (ds.drop n)
  | _, _, 0, h => h
  | _, _, n + 1, .nil => by simp; exact .nil
  | _, _, n + 1, .cons h r => by simp only [List.drop_succ_cons]; exact Reps.drop n r
theorem Reps.reverse : ∀ {vs : List V} {ds : List D}, Reps K H F vs ds → Reps K H F vs.reverse ds.reverse
  | _, _, .nil => .nil
  | _, _, .cons h r => by simp only [List.reverse_cons]; exact Reps.append (Reps.reverse r) (.cons h .nil)
theorem Reps.set : ∀ {vs : List V} {ds : List D} (n : Nat) {v : V} {d : D}, Reps K H F vs ds → Rep K H F v d → Reps K H F (vs.set n v) (ds.set n d)
  | _, _, _, _, _, .nil, _ => .nil
  | _, _, 0, _, _, .cons h r, q => .cons q r
  | _, _, n + 1, _, _, .cons h r, q => .cons h (Reps.set n r q)
theorem Reps.dropLast (h : Reps K H F vs ds) : Reps K H F vs.dropLast ds.dropLast := by
  rw [List.dropLast_eq_take, List.dropLast_eq_take, h.length]; exact h.take _
theorem Reps.rep (h : Reps K H F vs ds) : ∀ n : Nat, Reps K H F (List.replicate n vs).flatten (List.replicate n ds).flatten
  | 0 => .nil
  | n + 1 => by simp only [List.replicate_succ, List.flatten_cons]; exact h.append (Reps.rep h n)
theorem Reps.nil_iff (h : Reps K H F vs ds) : vs = [] ↔ ds = [] := by
  cases h <;> simp
theorem Reps.isEmpty (h : Reps K H F vs ds) : vs.isEmpty = ds.isEmpty := by
  cases h <;> rfl
theorem cutV_rep (h : Reps K H F vs ds) (lo hi : Option Int) : Reps K H F (cutV vs lo hi) (cutD ds lo hi) := by
  unfold cutV cutD
  rw [h.length]; exact (h.drop _).take _
theorem LAt.sql (h : LAt K H F a vs) : SqL K H a vs := .inl (.inl h.2)
theorem TAt.sqt (h : TAt K H F a vs) : SqT K H a vs := by
  rcases h with ⟨_, h⟩ | h
  · exact .inl (.inl h)
  · exact .inr h
theorem Reps.ints : ∀ {vs : List V} {ds : List D} {ns : List Int}, Reps K H F vs ds → intsOf ds = some ns → vs = ns.map V.int ∧ ds = ns.map D.int
  | _, _, _, .nil, e => by cases e; exact ⟨rfl, rfl⟩
  | _, _, ns, .cons (d := d) (ds := ds) h r, e => by
    cases h with
    | int i =>
      cases q : intsOf ds with
      | none => simp [intsOf, q] at e
      | some ms =>
        simp [intsOf, q] at e
        subst e
        obtain ⟨e1, e2⟩ := Reps.ints r q
        exact ⟨by rw [e1]; rfl, by rw [e2]; rfl⟩
    | _ => simp [intsOf] at e
theorem Reps.bls : ∀ {vs : List V} {ds : List D} {ns : List Bool}, Reps K H F vs ds → blsOf ds = some ns → vs = ns.map V.bl ∧ ds = ns.map D.bl
  | _, _, _, .nil, e => by cases e; exact ⟨rfl, rfl⟩
  | _, _, ns, .cons (d := d) (ds := ds) h r, e => by
    cases h with
    | bl i =>
      cases q : blsOf ds with
      | none => simp [blsOf, q] at e
      | some ms =>
        simp [blsOf, q] at e
        subst e
        obtain ⟨e1, e2⟩ := Reps.bls r q
        exact ⟨by rw [e1]; rfl, by rw [e2]; rfl⟩
    | _ => simp [blsOf] at e
theorem Reps.ofInts : ∀ ns : List Int, Reps K H F (ns.map V.int) (ns.map D.int)
  | [] => .nil
  | i :: r => .cons (.int i) (Reps.ofInts r)
end

/-! ### the frame -/
def SlotOk (K : PySem.W.Frag) (H : Hp) (F : FS) : Slot → Option V → Prop
  | .un, _ => True
  | .val d, v => ∃ x, v = some x ∧ Rep K H F x d
  | .own ds, v => ∃ a vs, v = some (.ref a) ∧ H a = some (.lst vs) ∧ Reps K H F vs ds ∧ ¬ F a
  | .lk ds, v => ∃ a vs, v = some (.ref a) ∧ H a = some (.lst vs) ∧ Reps K H F vs ds ∧ ¬ F a
def Slot.isOwn : Slot → Bool
  | .own _ => true
  | _ => false
def Slot.isLk : Slot → Bool
  | .lk _ => true
  | _ => false
def sv (σ : Sg) (i : Nat) : Option V := (σ[i]?).join
/-- an address whose list the frame may change; one that it has locked -/
def Own (fr : Fr) (σ : Sg) (a : Addr) : Prop := ∃ i, (fr.sl i).isOwn = true ∧ sv σ i = some (.ref a)
def Lok (fr : Fr) (σ : Sg) (a : Addr) : Prop := ∃ i, (fr.sl i).isLk = true ∧ sv σ i = some (.ref a)
def Slot.isHeld (s : Slot) : Bool := s.isOwn || s.isLk
structure Fm (K : PySem.W.Frag) (H : Hp) (F : FS) (fr : Fr) (σ : Sg) : Prop where
  len : fr.length = σ.length
  rep : ∀ i, SlotOk K H F (fr.sl i) (sv σ i)
  dis : ∀ i j a, (fr.sl i).isHeld = true → (fr.sl j).isHeld = true → sv σ i = some (.ref a) → sv σ j = some (.ref a) → i = j
  ft : ∀ a, F a → H a ≠ none
section
variable {K : PySem.W.Frag} {H H' : Hp} {F F' : FS} {a : Addr} {v : V} {fr fr' : Fr} {σ : Sg} {s : Slot} {i j : Nat}
theorem isOwn_iff : s.isOwn = true ↔ ∃ ds, s = .own ds := by cases s <;> simp [Slot.isOwn]
theorem isLk_iff : s.isLk = true ↔ ∃ ds, s = .lk ds := by cases s <;> simp [Slot.isLk]
theorem sl_set (fr : Fr) (i j : Nat) (s : Slot) : Fr.sl (fr.set i s) j = if i = j ∧ i < fr.length then s else fr.sl j := by
  unfold Fr.sl
  rw [List.getD_eq_getElem?_getD, List.getElem?_set, List.getD_eq_getElem?_getD]
  by_cases h : i = j
  · subst h
    by_cases h2 : i < fr.length
    · simp [h2]
    · simp [h2]
  · simp [h]
theorem sl_set_ne (fr : Fr) {i j : Nat} (h : i ≠ j) (s : Slot) : Fr.sl (fr.set i s) j = fr.sl j := by
  rw [sl_set, if_neg (fun q => h q.1)]
theorem sl_set_eq (fr : Fr) {i : Nat} (h : i < fr.length) (s : Slot) : Fr.sl (fr.set i s) i = s := by
  rw [sl_set, if_pos ⟨rfl, h⟩]
theorem sl_lt (h : fr.sl i ≠ .un) : i < fr.length := by
  refine Nat.lt_of_not_le fun q => h ?_
  unfold Fr.sl
  rw [List.getD_eq_getElem?_getD, List.getElem?_eq_none q]; rfl
theorem Fm.own (f : Fm K H F fr σ) (h : Own fr σ a) : (∃ vs, H a = some (.lst vs)) ∧ ¬ F a := by
  obtain ⟨i, h1, h2⟩ := h
  obtain ⟨ds, e⟩ := isOwn_iff.mp h1
  have := f.rep i
  rw [e, h2] at this
  obtain ⟨b, vs, e1, e2, _, e3⟩ := this
  cases e1
  exact ⟨⟨vs, e2⟩, e3⟩
theorem Fm.lok (f : Fm K H F fr σ) (h : Lok fr σ a) : (∃ vs, H a = some (.lst vs)) ∧ ¬ F a := by
  obtain ⟨i, h1, h2⟩ := h
  obtain ⟨ds, e⟩ := isLk_iff.mp h1
  have := f.rep i
  rw [e, h2] at this
  obtain ⟨b, vs, e1, e2, _, e3⟩ := this
  cases e1
  exact ⟨⟨vs, e2⟩, e3⟩
end

/-! ### what may happen -/
/-- from the frame fr at (H, F) to fr' at (H', F'): the frame's own lists may change, new objects may come; what is frozen stays -/
structure Nx (K : PySem.W.Frag) (σ : Sg) (H : Hp) (F : FS) (fr : Fr) (fr' : Fr) (H' : Hp) (F' : FS) : Prop where
  fm : Fm K H' F' fr' σ
  sub : ∀ a, F a → F' a
  trk : ∀ a, H a ≠ none → H' a ≠ none
  keep : ∀ a, H a ≠ none → ¬ Own fr σ a → H' a = H a
  nof : ∀ a, H a ≠ none → ¬ Own fr σ a → ¬ Lok fr σ a → F' a → F a
  ownS : ∀ i, (fr'.sl i).isOwn = true → (fr.sl i).isOwn = true
  hldS : ∀ i, (fr'.sl i).isHeld = true → (fr.sl i).isHeld = true
section
variable {K : PySem.W.Frag} {H H1 H2 : Hp} {F F1 F2 : FS} {a : Addr} {v : V} {fr fr1 fr2 : Fr} {σ : Sg}
theorem held_cases {i : Nat} (h : (fr.sl i).isHeld = true) : (fr.sl i).isOwn = true ∨ (fr.sl i).isLk = true := by
  unfold Slot.isHeld at h
  rwa [Bool.or_eq_true] at h
theorem held_own {i : Nat} (h : (fr.sl i).isOwn = true) : (fr.sl i).isHeld = true := by unfold Slot.isHeld; rw [h]; rfl
theorem held_lk {i : Nat} (h : (fr.sl i).isLk = true) : (fr.sl i).isHeld = true := by unfold Slot.isHeld; rw [h, Bool.or_true]
theorem Nx.own (n : Nx K σ H F fr fr1 H1 F1) : ∀ a, Own fr1 σ a → Own fr σ a := fun a ⟨i, h, e⟩ => ⟨i, n.ownS i h, e⟩
theorem Nx.lok (n : Nx K σ H F fr fr1 H1 F1) : ∀ a, Lok fr1 σ a → Own fr σ a ∨ Lok fr σ a := fun a ⟨i, h, e⟩ => (held_cases (n.hldS i (held_lk h))).elim (fun h => .inl ⟨i, h, e⟩) fun h => .inr ⟨i, h, e⟩
theorem Nx.refl (f : Fm K H F fr σ) : Nx K σ H F fr fr H F :=
  ⟨f, fun _ h => h, fun _ h => h, fun _ _ _ => rfl, fun _ _ _ _ h => h, fun _ h => h, fun _ h => h⟩
theorem Nx.frz (n : Nx K σ H F fr fr1 H1 F1) (f : Fm K H F fr σ) : ∀ a, F a → H1 a = H a := fun a h =>
  n.keep a (f.ft a h) fun o => (f.own o).2 h
theorem Nx.trans (f : Fm K H F fr σ) (m : Nx K σ H F fr fr1 H1 F1) (n : Nx K σ H1 F1 fr1 fr2 H2 F2) : Nx K σ H F fr fr2 H2 F2 where
  fm := n.fm
  sub := fun a h => n.sub a (m.sub a h)
  trk := fun a h => n.trk a (m.trk a h)
  keep := fun a h o => (n.keep a (m.trk a h) fun o1 => o (m.own a o1)).trans (m.keep a h o)
  nof := fun a h o l q => m.nof a h o l (n.nof a (m.trk a h) (fun o1 => o (m.own a o1)) (fun l1 => (m.lok a l1).elim o l) q)
  ownS := fun i h => m.ownS i (n.ownS i h)
  hldS := fun i h => m.hldS i (n.hldS i h)
theorem Nx.rep (n : Nx K σ H F fr fr1 H1 F1) (f : Fm K H F fr σ) {v : V} {d : D} (r : Rep K H F v d) : Rep K H1 F1 v d := r.mono n.sub (n.frz f)
theorem Nx.reps (n : Nx K σ H F fr fr1 H1 F1) (f : Fm K H F fr σ) {v : List V} {d : List D} (r : Reps K H F v d) : Reps K H1 F1 v d := r.mono n.sub (n.frz f)
end

/-! ### results -/
/-- a result: a value, or a new list -/
def RS (K : PySem.W.Frag) (σ : Sg) (H : Hp) (F : FS) (fr : Fr) : Slot → V → Prop
  | .un, _ => True
  | .val d, v => Rep K H F v d
  | .own ds, v => ∃ a vs, v = .ref a ∧ H a = some (.lst vs) ∧ Reps K H F vs ds ∧ ¬ F a ∧ ¬ Own fr σ a ∧ ¬ Lok fr σ a
  | .lk _, _ => False
/-- where a result's list comes from -/
def From (σ : Sg) (H : Hp) (fr : Fr) (s : Slot) (v : V) : Prop := ∀ ds a, s = .own ds → v = .ref a → Own fr σ a ∨ H a = none
/-- an operand -/
def RO (K : PySem.W.Frag) (σ : Sg) (H : Hp) (F : FS) (fr : Fr) : Opd → V → Prop
  | .at i, v => sv σ i = some v
  | .sl s, v => RS K σ H F fr s v
/-- a value that is read now -/
def RB (K : PySem.W.Frag) (H : Hp) (F : FS) (v : V) (d : D) : Prop := Rep K H F v d ∨ ∃ a vs ds, v = .ref a ∧ d = .lst ds ∧ H a = some (.lst vs) ∧ Reps K H F vs ds
section
variable {K : PySem.W.Frag} {H H1 H2 : Hp} {F F1 F2 : FS} {a : Addr} {v : V} {fr fr1 fr2 : Fr} {σ : Sg} {s : Slot} {d : D} {o : Opd}
theorem Nx.rs (n : Nx K σ H F fr fr1 H1 F1) (f : Fm K H F fr σ) (r : RS K σ H F fr s v) : RS K σ H1 F1 fr1 s v := by
  cases s with
  | un => trivial
  | val d => exact n.rep f r
  | lk d => exact r
  | own ds =>
    obtain ⟨a, vs, e, h, q, nf, no, nl⟩ := r
    have ht : H a ≠ none := by rw [h]; intro q; cases q
    exact ⟨a, vs, e, (n.keep a ht no).trans h, n.reps f q, fun q => nf (n.nof a ht no nl q), fun q => no (n.own a q), fun q => (n.lok a q).elim no nl⟩
theorem Nx.ro (n : Nx K σ H F fr fr1 H1 F1) (f : Fm K H F fr σ) (r : RO K σ H F fr o v) : RO K σ H1 F1 fr1 o v := by
  cases o with
  | «at» i => exact r
  | sl s => exact n.rs f r
theorem RS.rb (r : RS K σ H F fr s v) (e : s.d? = some d) : RB K H F v d := by
  cases s with
  | un => cases e
  | val d => cases e; exact .inl r
  | lk d => exact r.elim
  | own ds =>
    cases e
    obtain ⟨a, vs, e, h, q, _⟩ := r
    exact .inr ⟨a, vs, _, e, rfl, h, q⟩
theorem Fm.rb (f : Fm K H F fr σ) {i : Nat} (hv : sv σ i = some v) (e : (fr.sl i).d? = some d) : RB K H F v d := by
  have r := f.rep i
  rw [hv] at r
  cases q : fr.sl i with
  | un => rw [q] at e; cases e
  | val d =>
    rw [q] at e r; cases e
    obtain ⟨x, e, r⟩ := r
    cases e; exact .inl r
  | lk ds =>
    rw [q] at e r; cases e
    obtain ⟨a, vs, e, h, r, _⟩ := r
    cases e; exact .inr ⟨a, vs, _, rfl, rfl, h, r⟩
  | own ds =>
    rw [q] at e r; cases e
    obtain ⟨a, vs, e, h, r, _⟩ := r
    cases e; exact .inr ⟨a, vs, _, rfl, rfl, h, r⟩
theorem rdO_ok (f : Fm K H F fr σ) (r : RO K σ H F fr o v) {fr' : Fr} (e : rdO o fr = .ok d fr') : fr' = fr ∧ RB K H F v d := by
  cases o with
  | «at» i =>
    simp only [rdO, opt] at e
    cases q : (fr.sl i).d? with
    | none => rw [q] at e; cases e
    | some d' => rw [q] at e; cases e; exact ⟨rfl, f.rb r q⟩
  | sl s =>
    simp only [rdO, opt] at e
    cases q : s.d? with
    | none => rw [q] at e; cases e
    | some d' => rw [q] at e; cases e; exact ⟨rfl, RS.rb r q⟩
/-- freezing a result -/
theorem RS.freeze (f : Fm K H F fr σ) (n : Nx K σ H F fr fr1 H1 F1) (r : RS K σ H1 F1 fr1 s v) (hf : From σ H fr s v) (e : s.d? = some d) : ∃ F', Nx K σ H F fr fr1 H1 F' ∧ Rep K H1 F' v d := by
  cases s with
  | un => cases e
  | val d => cases e; exact ⟨F1, n, r⟩
  | lk d => exact r.elim
  | own ds =>
    cases e
    obtain ⟨a, vs, e, h, q, nf, no, nl⟩ := r
    subst e
    have sub : ∀ b, F1 b → (F1 b ∨ b = a) := fun b h => .inl h
    refine ⟨fun b => F1 b ∨ b = a, ⟨⟨n.fm.len, fun i => ?_, n.fm.dis, fun b hb => ?_⟩, fun b h => .inl (n.sub b h), n.trk, n.keep, fun b hb ho hl q => ?_, n.ownS, n.hldS⟩, .lst ⟨.inr rfl, h⟩ (q.mono sub fun _ _ => rfl)⟩
    · have r := n.fm.rep i
      cases q : fr1.sl i with
      | un => trivial
      | val d =>
        rw [q] at r
        obtain ⟨x, e, r⟩ := r
        exact ⟨x, e, r.mono sub fun _ _ => rfl⟩
      | lk ds =>
        rw [q] at r
        obtain ⟨b, vs, e, h, r, nf⟩ := r
        exact ⟨b, vs, e, h, r.mono sub fun _ _ => rfl, fun z => z.elim nf fun z => nl ⟨i, by rw [q]; rfl, by rw [e, z]⟩⟩
      | own ds =>
        rw [q] at r
        obtain ⟨b, vs, e, h, r, nf⟩ := r
        exact ⟨b, vs, e, h, r.mono sub fun _ _ => rfl, fun z => z.elim nf fun z => no ⟨i, by rw [q]; rfl, by rw [e, z]⟩⟩
    · rcases hb with hb | hb
      · exact n.fm.ft b hb
      · rw [hb, h]; intro q; cases q
    · rcases q with q | q
      · exact n.nof b hb ho hl q
      · rw [q] at ho hb
        rcases hf _ a rfl rfl with z | z
        · exact absurd z ho
        · exact absurd z hb
end
end MP

/-! MP: what one step may do; operators. -/
namespace MP
open PySem PySem.Spec PyProof.Rows L2

/-- objects come, nothing changes -/
structure Grow (H : Hp) (F : FS) (H' : Hp) (F' : FS) : Prop where
  sub : ∀ a, F a → F' a
  keep : ∀ a, H a ≠ none → H' a = H a
  nof : ∀ a, H a ≠ none → F' a → F a
  ft : ∀ a, F' a → H' a ≠ none
/-- a result of a step -/
def RP (K : PySem.W.Frag) (H H' : Hp) (F' : FS) : Slot → V → Prop
  | .val d, v => Rep K H' F' v d
  | .own ds, v => ∃ p vs, v = .ref p ∧ H p = none ∧ H' p = some (.lst vs) ∧ Reps K H' F' vs ds ∧ ¬ F' p
  | _, _ => False
def Prim (K : PySem.W.Frag) (H : Hp) (F : FS) (s : Slot) (Q : VK) : Prop := ∀ v H' F', Grow H F H' F' → RP K H H' F' s v → Q v H'
abbrev FT (F : FS) (H : Hp) : Prop := ∀ a, F a → H a ≠ none
section
variable {K : PySem.W.Frag} {H H' H1 H2 : Hp} {F F' F1 F2 : FS} {a p : Addr} {v : V} {vs : List V} {fr fr1 fr2 : Fr} {σ : Sg} {s : Slot} {d : D} {ds : List D} {o : Opd} {Q : VK}
theorem Grow.refl (ft : FT F H) : Grow H F H F := ⟨fun _ h => h, fun _ _ => rfl, fun _ _ h => h, ft⟩
theorem Grow.frz (g : Grow H F H' F') (ft : FT F H) : ∀ a, F a → H' a = H a := fun a h => g.keep a (ft a h)
theorem Grow.trans (g : Grow H F H1 F1) (g2 : Grow H1 F1 H2 F2) : Grow H F H2 F2 :=
  ⟨fun a h => g2.sub a (g.sub a h), fun a h => (g2.keep a (by rw [g.keep a h]; exact h)).trans (g.keep a h), fun a h q => g.nof a h (g2.nof a (by rw [g.keep a h]; exact h) q), g2.ft⟩
theorem Grow.nx (g : Grow H F H' F') (f : Fm K H F fr σ) : Nx K σ H F fr fr H' F' := by
  refine ⟨⟨f.len, fun i => ?_, f.dis, g.ft⟩, g.sub, fun a h => by rw [g.keep a h]; exact h, fun a h _ => g.keep a h, fun a h _ _ q => g.nof a h q, fun _ h => h, fun _ h => h⟩
  have r := f.rep i
  cases q : fr.sl i with
  | un => trivial
  | val d =>
    rw [q] at r
    obtain ⟨x, e, r⟩ := r
    exact ⟨x, e, r.mono g.sub (g.frz f.ft)⟩
  | lk ds =>
    rw [q] at r
    obtain ⟨b, vs, e, h, r, nf⟩ := r
    have hb : H b ≠ none := by rw [h]; intro q; cases q
    exact ⟨b, vs, e, (g.keep b hb).trans h, r.mono g.sub (g.frz f.ft), fun z => nf (g.nof b hb z)⟩
  | own ds =>
    rw [q] at r
    obtain ⟨b, vs, e, h, r, nf⟩ := r
    have hb : H b ≠ none := by rw [h]; intro q; cases q
    exact ⟨b, vs, e, (g.keep b hb).trans h, r.mono g.sub (g.frz f.ft), fun z => nf (g.nof b hb z)⟩
theorem RP.rs (r : RP K H H' F' s v) (g : Grow H F H' F') (f : Fm K H F fr σ) : RS K σ H' F' fr s v ∧ From σ H fr s v := by
  cases s with
  | un => exact r.elim
  | lk d => exact r.elim
  | val d => exact ⟨r, fun ds a e => by cases e⟩
  | own ds =>
    obtain ⟨p, vs, e, hn, h, q, nf⟩ := r
    refine ⟨⟨p, vs, e, h, q, nf, fun o => ?_, fun o => ?_⟩, fun ds a _ e2 => ?_⟩
    · obtain ⟨⟨ws, z⟩, _⟩ := f.own o
      rw [hn] at z; cases z
    · obtain ⟨⟨ws, z⟩, _⟩ := f.lok o
      rw [hn] at z; cases z
    · rw [e] at e2; cases e2; exact .inr hn
theorem Prim.val (ft : FT F H) (h : Prim K H F (.val d) Q) (r : Rep K H F v d) : Q v H := h v H F (.refl ft) r
theorem grow_new {o : HO} (ft : FT F H) (hp : H p = none) : Grow H F (upd H p o) F :=
  ⟨fun _ h => h, fun a h => by rw [upd_ne (fun e => h (by rw [e]; exact hp))], fun _ _ h => h, fun a h => by
    by_cases e : a = p
    · rw [e, upd_same]; intro q; cases q
    · rw [upd_ne e]; exact ft a h⟩
theorem grow_newF {o : HO} (ft : FT F H) (hp : H p = none) : Grow H F (upd H p o) (fun a => F a ∨ a = p) :=
  ⟨fun _ h => .inl h, fun a h => by rw [upd_ne (fun e => h (by rw [e]; exact hp))], fun a h q => q.elim id fun e => absurd hp (by rw [← e]; exact h), fun a h => by
    by_cases e : a = p
    · rw [e, upd_same]; intro q; cases q
    · rw [upd_ne e]; exact ft a (h.elim id fun z => absurd z e)⟩
theorem Prim.lst (ft : FT F H) (h : Prim K H F (.own ds) Q) (r : Reps K H F vs ds) (hp : H p = none) : Q (.ref p) (upd H p (.lst vs)) := by
  have g := grow_new (o := .lst vs) ft hp
  exact h _ _ _ g ⟨p, vs, rfl, hp, upd_same, r.mono g.sub (g.frz ft), fun z => ft p z hp⟩
theorem Prim.tup (ft : FT F H) (h : Prim K H F (.val (.tup ds)) Q) (r : Reps K H F vs ds) (hp : H p = none) : Q (.ref p) (upd H p (.tup vs)) := by
  have g := grow_newF (o := .tup vs) ft hp
  exact h _ _ _ g (.tup (.inl ⟨.inr rfl, upd_same⟩) (r.mono g.sub (g.frz ft)))
/-- a list is kept -/
theorem Prim.lstF (ft : FT F H) (h : Prim K H F (.val (.lst ds)) Q) (r : Reps K H F vs ds) (hp : H p = none) : Q (.ref p) (upd H p (.lst vs)) := by
  have g := grow_newF (o := .lst vs) ft hp
  exact h _ _ _ g (.lst ⟨.inr rfl, upd_same⟩ (r.mono g.sub (g.frz ft)))

theorem rb_int {i : Int} (r : RB K H F v (.int i)) : v = .int i := by
  rcases r with r | ⟨a, vs, ds, _, e, _⟩
  · cases r; rfl
  · cases e
theorem rb_bl {i : Bool} (r : RB K H F v (.bl i)) : v = .bl i := by
  rcases r with r | ⟨a, vs, ds, _, e, _⟩
  · cases r; rfl
  · cases e
theorem rb_str {i : Str} (r : RB K H F v (.str i)) : v = .str i := by
  rcases r with r | ⟨a, vs, ds, _, e, _⟩
  · cases r; rfl
  · cases e
theorem rb_non (r : RB K H F v .non) : v = .non := by
  rcases r with r | ⟨a, vs, ds, _, e, _⟩
  · cases r; rfl
  · cases e
theorem rb_tup (r : RB K H F v (.tup ds)) : ∃ a vs, v = .ref a ∧ SqT K H a vs ∧ Reps K H F vs ds ∧ Rep K H F v (.tup ds) := by
  rcases r with r | ⟨a, vs, ds, _, e, _⟩
  · cases r with
    | tup t q => exact ⟨_, _, rfl, t.sqt, q, .tup t q⟩
  · cases e
theorem rb_lst (r : RB K H F v (.lst ds)) : ∃ a vs, v = .ref a ∧ H a = some (.lst vs) ∧ Reps K H F vs ds := by
  rcases r with r | ⟨a, vs, ds, e1, e, h, q⟩
  · cases r with
    | lst t q => exact ⟨_, _, rfl, t.2, q⟩
  · cases e; exact ⟨a, vs, e1, h, q⟩
theorem rb_scr {ns : List Int} (r : RB K H F v (.scr ns)) : ∃ a, v = .ref a ∧ SqL K H a (ns.map V.int) := by
  rcases r with r | ⟨a, vs, ds, _, e, _⟩
  · cases r with
    | scr t => exact ⟨_, rfl, t.sql⟩
  · cases e
theorem when_some {α : Type} {c : Bool} {x y : α} (h : when c x = some y) : c = true ∧ x = y := by
  cases c with
  | true => exact ⟨rfl, Option.some.inj h⟩
  | false => cases h
end

/-! ### operators -/
def pyOp : Op → Operator
  | .add => .Add | .sub => .Sub | .mul => .Mult | .fdiv => .FloorDiv | .mod => .Mod | .pow => .Pow
  | .shl => .LShift | .shr => .RShift | .and => .BitAnd | .or => .BitOr | .xor => .BitXor
def rBin (K : PySem.W.Frag) (o : Op) : R2 := fun x y H Q => ∃ F d e s, FT F H ∧ RB K H F x d ∧ RB K H F y e ∧ binop o d e = some s ∧ Prim K H F s Q
theorem mulOk_ok {i j : Int} (h : mulOk i j = true) : CMul i j := by
  unfold mulOk at h
  simp only [Bool.or_eq_true, Bool.and_eq_true, decide_eq_true_eq] at h
  exact h
theorem powOk_ok {i j : Int} (h : powOk i j = true) : CPow i j := by
  unfold powOk at h
  simp only [Bool.and_eq_true, decide_eq_true_eq] at h
  exact ⟨h.1, h.2.1, by omega⟩
section
variable {X : Cx}
theorem op_bin (o : Op) : OpR X (binaryOp (pyOp o)) (rBin X.K o) := by
  intro pins s σ H x y v u Q I rx ry h
  obtain ⟨F, d, e, r, ft, bd, be, hb, hp⟩ := h
  unfold binop at hb
  split at hb
  · rename_i i j
    obtain rfl := rb_int bd; obtain rfl := rb_int be; cases hb
    exact op_add pins s σ H _ _ v u Q I rx ry ⟨i, j, rfl, rfl, hp.val ft (.int _)⟩
  · rename_i i j
    obtain rfl := rb_int bd; obtain rfl := rb_int be; cases hb
    exact op_sub pins s σ H _ _ v u Q I rx ry ⟨i, j, rfl, rfl, hp.val ft (.int _)⟩
  · rename_i i j
    obtain rfl := rb_int bd; obtain rfl := rb_int be
    obtain ⟨c, rfl⟩ := when_some hb
    exact op_mul pins s σ H _ _ v u Q I rx ry ⟨i, j, rfl, rfl, mulOk_ok c, hp.val ft (.int _)⟩
  · rename_i i j
    obtain rfl := rb_int bd; obtain rfl := rb_int be
    obtain ⟨c, rfl⟩ := when_some hb
    simp only [Bool.and_eq_true, decide_eq_true_eq] at c
    exact op_fdivW pins s σ H _ _ v u Q I rx ry ⟨i, j, rfl, rfl, wide_div c.1 (b := 256) (by omega) (by decide) (by decide), hp.val ft (.int _)⟩
  · rename_i i j
    obtain rfl := rb_int bd; obtain rfl := rb_int be
    obtain ⟨c, rfl⟩ := when_some hb
    exact op_mod pins s σ H _ _ v u Q I rx ry ⟨i, j, rfl, rfl, of_decide_eq_true c, hp.val ft (.int _)⟩
  · rename_i i j
    obtain rfl := rb_int bd; obtain rfl := rb_int be
    obtain ⟨c, rfl⟩ := when_some hb
    exact op_pow pins s σ H _ _ v u Q I rx ry ⟨i, j, rfl, rfl, powOk_ok c, hp.val ft (.int _)⟩
  · rename_i i j
    obtain rfl := rb_int bd; obtain rfl := rb_int be
    obtain ⟨c, rfl⟩ := when_some hb
    exact op_shl pins s σ H _ _ v u Q I rx ry ⟨i, j, rfl, rfl, powOk_ok c, hp.val ft (.int _)⟩
  · rename_i i j
    obtain rfl := rb_int bd; obtain rfl := rb_int be
    obtain ⟨c, rfl⟩ := when_some hb
    exact op_shr pins s σ H _ _ v u Q I rx ry ⟨i, j, rfl, rfl, of_decide_eq_true c, hp.val ft (.int _)⟩
  · rename_i i j
    obtain rfl := rb_int bd; obtain rfl := rb_int be; cases hb
    exact op_and pins s σ H _ _ v u Q I rx ry ⟨i, j, rfl, rfl, hp.val ft (.int _)⟩
  · rename_i i j
    obtain rfl := rb_int bd; obtain rfl := rb_int be; cases hb
    exact op_or pins s σ H _ _ v u Q I rx ry ⟨i, j, rfl, rfl, hp.val ft (.int _)⟩
  · rename_i i j
    obtain rfl := rb_int bd; obtain rfl := rb_int be; cases hb
    exact op_xor pins s σ H _ _ v u Q I rx ry ⟨i, j, rfl, rfl, hp.val ft (.int _)⟩
  · rename_i i j
    obtain rfl := rb_str bd; obtain rfl := rb_str be
    obtain ⟨c, rfl⟩ := when_some hb
    exact op_add_str pins s σ H _ _ v u Q I rx ry ⟨i, j, rfl, rfl, of_decide_eq_true c, hp.val ft (.str _)⟩
  · rename_i xs ys
    obtain ⟨a, vs, rfl, ha, qa, ra⟩ := rb_tup bd
    obtain ⟨b, ws, rfl, hb', qb, rb⟩ := rb_tup be
    obtain ⟨c, rfl⟩ := when_some hb
    refine op_catA pins s σ H _ _ v u Q I rx ry ⟨a, b, vs, ws, rfl, rfl, ha, hb', by rw [qa.length, qb.length]; exact of_decide_eq_true c, fun z => ?_, fun _ z => ?_, fun _ _ p np => hp.tup ft (qa.append qb) np⟩
    · rw [qa.nil_iff.mp z] at hp; exact hp.val ft rb
    · rw [qb.nil_iff.mp z, List.append_nil] at hp; exact hp.val ft ra
  · rename_i xs ys
    obtain ⟨a, vs, rfl, ha, qa⟩ := rb_lst bd
    obtain ⟨b, ws, rfl, hb', qb⟩ := rb_lst be
    obtain ⟨c, rfl⟩ := when_some hb
    exact op_cat pins s σ H _ _ v u Q I rx ry ⟨a, b, vs, ws, rfl, rfl, ha, hb', by rw [qa.length, qb.length]; exact of_decide_eq_true c, fun p np => hp.lst ft (qa.append qb) np⟩
  · rename_i xs k
    obtain ⟨a, vs, rfl, ha, qa⟩ := rb_lst bd
    obtain rfl := rb_int be
    obtain ⟨c, rfl⟩ := when_some hb
    simp only [Bool.and_eq_true, decide_eq_true_eq] at c
    exact op_rep pins s σ H _ _ v u Q I rx ry ⟨a, k, vs, rfl, rfl, ha, c.1, c.2.1, by rw [qa.length]; exact c.2.2, fun p np => hp.lst ft (qa.rep _) np⟩
  · rename_i xs k
    obtain ⟨a, vs, rfl, ha, qa, _⟩ := rb_tup bd
    obtain rfl := rb_int be
    obtain ⟨c, rfl⟩ := when_some hb
    simp only [Bool.and_eq_true, decide_eq_true_eq, Bool.not_eq_true'] at c
    refine op_repT pins s σ H _ _ v u Q I rx ry ⟨a, k, vs, rfl, rfl, ha, fun z => ?_, c.2.1, c.2.2.1, by rw [qa.length]; exact c.2.2.2, fun p np => hp.tup ft (qa.rep _) np⟩
    rw [qa.nil_iff.mp z] at c
    simp at c
  · cases hb
end
end MP

/-! MP: comparisons, items, built-ins. -/
namespace MP
open PySem PySem.Spec PyProof.Rows L2
mutual
def D.py : D → PyData
  | .non => .none
  | .bl b => .bool b
  | .int i => .int i
  | .str x => .str x
  | .tup xs => .tuple (D.pys xs)
  | .lst xs => .list (D.pys xs)
  | .dic _ _ => .none
  | .scr _ => .none
def D.pys : List D → List PyData
  | [] => []
  | x :: xs => D.py x :: D.pys xs
end
mutual
theorem py_ok : ∀ (d : D) (n : Nat), d.dep = some n → d.py.canLay0 = true ∧ d.py.depth ≤ n
  | .non, _, h => by simp [D.py, PyData.canLay0, PyData.depth]
  | .bl _, _, h => by simp [D.py, PyData.canLay0, PyData.depth]
  | .int _, _, h => by simp [D.py, PyData.canLay0, PyData.depth]
  | .str x, n, h => by
    simp only [D.dep] at h
    split at h
    · rename_i c
      simp [D.py, PyData.canLay0, PyData.depth, c]
    · cases h
  | .tup xs, n, h => by
    simp only [D.dep] at h
    cases q : D.deps xs with
    | none => rw [q] at h; cases h
    | some m =>
      rw [q] at h; cases h
      have := pys_ok xs m q
      simp only [D.py, PyData.canLay0, PyData.depth]
      exact ⟨this.1, Nat.succ_le_succ this.2⟩
  | .lst xs, n, h => by
    simp only [D.dep] at h
    cases q : D.deps xs with
    | none => rw [q] at h; cases h
    | some m =>
      rw [q] at h; cases h
      have := pys_ok xs m q
      simp only [D.py, PyData.canLay0, PyData.depth]
      exact ⟨this.1, Nat.succ_le_succ this.2⟩
  | .dic _ _, n, h => by simp [D.dep] at h
  | .scr _, n, h => by simp [D.dep] at h
theorem pys_ok : ∀ (d : List D) (n : Nat), D.deps d = some n → PyData.canLayAll0 (D.pys d) = true ∧ PyData.depthAll (D.pys d) ≤ n
  | [], n, h => by simp [D.pys, PyData.canLayAll0, PyData.depthAll]
  | x :: xs, n, h => by
    simp only [D.deps] at h
    cases q1 : D.dep x with
    | none => rw [q1] at h; cases h
    | some a =>
      cases q2 : D.deps xs with
      | none => rw [q1, q2] at h; cases h
      | some b =>
        rw [q1, q2] at h; cases h
        have h1 := py_ok x a q1
        have h2 := pys_ok xs b q2
        simp only [D.pys, PyData.canLayAll0, PyData.depthAll, h1.1, h2.1, Bool.and_self, true_and]
        omega
end
mutual
theorem py_eqv : ∀ (d e : D) (n m : Nat), d.dep = some n → e.dep = some m → PyData.eqv d.py e.py = D.eqv d e := by
  intro d e n m hd he
  cases d with
  | tup xs =>
    simp only [D.dep] at hd
    cases q : D.deps xs with
    | none => rw [q] at hd; cases hd
    | some a =>
      cases e with
      | tup ys =>
        simp only [D.dep] at he
        cases q2 : D.deps ys with
        | none => rw [q2] at he; cases he
        | some b => simp only [D.py, PyData.eqv, D.eqv]; exact pys_eqv xs ys a b q q2
      | dic _ _ => simp [D.dep] at he
      | scr _ => simp [D.dep] at he
      | _ => simp [D.py, PyData.eqv, D.eqv]
  | lst xs =>
    simp only [D.dep] at hd
    cases q : D.deps xs with
    | none => rw [q] at hd; cases hd
    | some a =>
      cases e with
      | lst ys =>
        simp only [D.dep] at he
        cases q2 : D.deps ys with
        | none => rw [q2] at he; cases he
        | some b => simp only [D.py, PyData.eqv, D.eqv]; exact pys_eqv xs ys a b q q2
      | dic _ _ => simp [D.dep] at he
      | scr _ => simp [D.dep] at he
      | _ => simp [D.py, PyData.eqv, D.eqv]
  | dic _ _ => simp [D.dep] at hd
  | scr _ => simp [D.dep] at hd
  | str x =>
    cases e with
    | dic _ _ => simp [D.dep] at he
    | scr _ => simp [D.dep] at he
    | str y => simp only [D.py, PyData.eqv, D.eqv]; exact Bool.beq_eq_decide_eq x y
    | _ => simp [D.py, PyData.eqv, D.eqv]
  | _ =>
    cases e with
    | dic _ _ => simp [D.dep] at he
    | scr _ => simp [D.dep] at he
    | _ => simp [D.py, PyData.eqv, D.eqv]
theorem pys_eqv : ∀ (d e : List D) (n m : Nat), D.deps d = some n → D.deps e = some m → PyData.eqvAll (D.pys d) (D.pys e) = D.eqvs d e
  | [], [], _, _, _, _ => by simp [D.pys, PyData.eqvAll, D.eqvs]
  | [], _ :: _, _, _, _, _ => by simp [D.pys, PyData.eqvAll, D.eqvs]
  | _ :: _, [], _, _, _, _ => by simp [D.pys, PyData.eqvAll, D.eqvs]
  | x :: xs, y :: ys, n, m, hn, hm => by
    simp only [D.deps] at hn hm
    cases q1 : D.dep x with
    | none => rw [q1] at hn; cases hn
    | some a =>
      cases q2 : D.deps xs with
      | none => rw [q1, q2] at hn; cases hn
      | some b =>
        cases q3 : D.dep y with
        | none => rw [q3] at hm; cases hm
        | some c =>
          cases q4 : D.deps ys with
          | none => rw [q3, q4] at hm; cases hm
          | some d =>
            simp only [D.pys, PyData.eqvAll, D.eqvs]
            rw [py_eqv x y a c q1 q3, pys_eqv xs ys b d q2 q4]
end
theorem shal_ok {d : D} (h : d.shal = true) : ∃ n, d.dep = some n ∧ SeqAt.shaped d.py = true := by
  unfold D.shal at h
  cases q : d.dep with
  | none => rw [q] at h; cases h
  | some n =>
    rw [q] at h
    have h1 := of_decide_eq_true h
    have h2 := py_ok d n q
    refine ⟨n, rfl, ?_⟩
    unfold SeqAt.shaped
    rw [h2.1, Bool.true_and]
    exact decide_eq_true (by omega)
section
variable {K : PySem.W.Frag} {H : Hp} {F : FS} {v : V} {vs : List V} {d : D} {ds : List D}
mutual
theorem Rep.dp : ∀ {v : V} {d : D} {n : Nat}, Rep K H F v d → d.dep = some n → Dp K H v d.py
  | _, _, _, .non, _ => by simp only [D.py]; exact .non
  | _, _, _, .bl b, _ => by simp only [D.py]; exact .bl b
  | _, _, _, .int b, _ => by simp only [D.py]; exact .int b
  | _, _, _, .str b, _ => by simp only [D.py]; exact .str b
  | _, .tup ds, n, .tup t r, h => by
    simp only [D.dep] at h
    cases q : D.deps ds with
    | none => rw [q] at h; cases h
    | some m => simp only [D.py]; exact .tup t.sqt (Reps.dp r q)
  | _, .lst ds, n, .lst t r, h => by
    simp only [D.dep] at h
    cases q : D.deps ds with
    | none => rw [q] at h; cases h
    | some m => simp only [D.py]; exact .lst t.sql (Reps.dp r q)
  | _, _, _, .scr _, h => by simp [D.dep] at h
  | _, _, _, .dic _ _ _ _, h => by simp [D.dep] at h
theorem Reps.dp : ∀ {v : List V} {d : List D} {n : Nat}, Reps K H F v d → D.deps d = some n → DpAll K H v (D.pys d)
  | _, _, _, .nil, _ => by simp only [D.pys]; exact .nil
  | _, x :: xs, _, .cons h r, e => by
    simp only [D.deps] at e
    cases q1 : D.dep x with
    | none => rw [q1] at e; cases e
    | some a =>
      cases q2 : D.deps xs with
      | none => rw [q1, q2] at e; cases e
      | some b => simp only [D.pys]; exact .cons (Rep.dp h q1) (Reps.dp r q2)
end
theorem RB.dp {n : Nat} (r : RB K H F v d) (h : d.dep = some n) : Dp K H v d.py := by
  rcases r with r | ⟨a, vs, ds, rfl, rfl, e, q⟩
  · exact r.dp h
  · simp only [D.dep] at h
    cases q2 : D.deps ds with
    | none => rw [q2] at h; cases h
    | some m => simp only [D.py]; exact .lst (.inl (.inl e)) (q.dp q2)
theorem atom_flat (r : RB K H F v d) (h : d.isAtom = true) : flatV v = true := by
  rcases r with r | ⟨a, vs, ds, rfl, rfl, e, q⟩
  · cases r <;> first | rfl | cases h
  · cases h
theorem atoms_flat : ∀ {vs : List V} {ds : List D}, Reps K H F vs ds → ds.all D.isAtom = true → vs.all flatV = true
  | _, _, .nil, _ => rfl
  | _, _, .cons h r, e => by
    rw [List.all_cons, Bool.and_eq_true] at e
    rw [List.all_cons, Bool.and_eq_true]
    exact ⟨atom_flat (.inl h) e.1, atoms_flat r e.2⟩
theorem atom_eqv {w : V} {e : D} (r : RB K H F v d) (q : RB K H F w e) (h : d.isAtom = true) (h2 : e.isAtom = true) : eqV v w = D.eqv d e := by
  rcases r with r | ⟨_, _, _, _, rfl, _, _⟩
  · rcases q with q | ⟨_, _, _, _, rfl, _, _⟩
    · cases r <;> cases q <;> first | rfl | cases h | cases h2 | (simp only [eqV, D.eqv]; exact Bool.beq_eq_decide_eq _ _) | simp [eqV, D.eqv]
    · cases h2
  · cases h
theorem atoms_in (r : RB K H F v d) (h : d.isAtom = true) : ∀ {vs : List V} {ds : List D}, Reps K H F vs ds → ds.all D.isAtom = true → inV v vs = inB d ds
  | _, _, .nil, _ => rfl
  | _, _, .cons q t, e => by
    rw [List.all_cons, Bool.and_eq_true] at e
    have ih := atoms_in r h t e.2
    unfold inV inB at *
    rw [List.any_cons, List.any_cons, ih, atom_eqv (.inl q) r e.1 h]
end
end MP

namespace MP
open PySem PySem.Spec PyProof.Rows L2
def pyCm : Cm → CmpOp
  | .eq => .Eq | .ne => .NotEq | .lt => .Lt | .le => .LtE | .gt => .Gt | .ge => .GtE | .is => .Is | .isnot => .IsNot | .in_ => .In | .notin => .NotIn
def rCmp (K : PySem.W.Frag) (o : Cm) : R2 := fun x y H Q => ∃ F d e r, FT F H ∧ RB K H F x d ∧ RB K H F y e ∧ cmpop o d e = some r ∧ Q (.bl r) H
section
variable {K : PySem.W.Frag} {H : Hp} {F : FS} {v : V} {vs : List V} {d e : D} {ds : List D}
theorem atom_scal {w : V} (r : RB K H F v d) (q : RB K H F w e) (h : scalD d e = true) : scal v w = true ∧ decide (v = w) = D.eqv d e := by
  rcases r with r | ⟨_, _, _, _, rfl, _, _⟩
  · rcases q with q | ⟨_, _, _, _, rfl, _, _⟩
    · cases r <;> cases q <;> first | (cases h; done) | (refine ⟨rfl, ?_⟩; simp [D.eqv]; done) | (refine ⟨rfl, ?_⟩; simp only [D.eqv]; rw [Bool.beq_eq_decide_eq]; simp) | (refine ⟨rfl, ?_⟩; first | exact dec_int | exact dec_bl | rfl) 
    · cases d <;> cases h
  · cases e <;> cases h
theorem not_non (r : RB K H F v d) : decide (v = .non) = d.isNon := by
  rcases r with r | ⟨_, _, _, rfl, rfl, _, _⟩
  · cases r <;> simp [D.isNon]
  · simp [D.isNon]
theorem shals {xs : List D} (h : D.shal (.lst xs) = true) : ∃ m, D.deps xs = some m := by
  unfold D.shal at h
  simp only [D.dep] at h
  cases q : D.deps xs with
  | none => rw [q] at h; cases h
  | some m => exact ⟨m, rfl⟩
theorem inB_py (hd : d.shal = true) : ∀ (xs : List D) (m : Nat), D.deps xs = some m → (D.pys xs).any (fun z => PyData.eqv z d.py) = inB d xs
  | [], _, _ => by simp [D.pys, inB]
  | x :: xs, n, hn => by
    simp only [D.deps] at hn
    cases q1 : D.dep x with
    | none => rw [q1] at hn; cases hn
    | some a =>
      cases q2 : D.deps xs with
      | none => rw [q1, q2] at hn; cases hn
      | some b =>
        obtain ⟨k, hk, _⟩ := shal_ok hd
        have ih := inB_py hd xs b q2
        unfold inB at *
        rw [D.pys, List.any_cons, List.any_cons, ih, py_eqv x d a k q1 hk]
theorem keyOf_kV {k : Key} (r : RB K H F v d) (h : keyOf d = some k) : v = kV k := by
  rcases r with r | ⟨_, _, _, _, rfl, _, _⟩
  · cases r <;> cases h <;> rfl
  · cases h
theorem rb_dic {ks : List Key} (r : RB K H F v (.dic ks ds)) : ∃ a vs, v = .ref a ∧ F a ∧ H a = some (.dK (ks.zip vs)) ∧ ks.length = vs.length ∧ Reps K H F vs ds := by
  rcases r with r | ⟨_, _, _, _, e, _, _⟩
  · cases r with
    | dic t l n q => exact ⟨_, _, rfl, t.1, t.2, l, q⟩
  · cases e
theorem dlook_valV {k : Key} : ∀ {ks : List Key} {vs : List V} {ds : List D}, ks.length = vs.length → Reps K H F vs ds → (∀ d, dlook ks ds k = some d → ∃ v, valV (ks.zip vs) k = some v ∧ Rep K H F v d) ∧ (dlook ks ds k = none → valV (ks.zip vs) k = none)
  | [], vs, ds, _, _ => ⟨fun d h => by simp [dlook] at h, fun _ => rfl⟩
  | k' :: ks, [], _, h, _ => by simp at h
  | k' :: ks, v :: vs, _, hl, .cons (d := d) (ds := ds) r t => by
    have ih := dlook_valV (k := k) (ks := ks) (by simpa using hl) t
    simp only [dlook, List.zip_cons_cons]
    by_cases e : k' = k
    · rw [if_pos e]
      exact ⟨fun d' h => by cases h; exact ⟨v, valV_pos (p := (k', v)) e, r⟩, fun h => by cases h⟩
    · rw [if_neg e, valV_neg (p := (k', v)) e]; exact ih
theorem hasK_valV {k : Key} : ∀ {ks : List Key} {vs : List V}, ks.length = vs.length → (valV (ks.zip vs) k).isSome = hasK k ks
  | [], vs, _ => rfl
  | k' :: ks, [], h => by simp at h
  | k' :: ks, v :: vs, hl => by
    have ih := hasK_valV (k := k) (ks := ks) (vs := vs) (by simpa using hl)
    unfold hasK at *
    rw [List.zip_cons_cons, List.any_cons]
    by_cases e : k' = k
    · rw [valV_pos (p := (k', v)) e]; simp [e]
    · rw [valV_neg (p := (k', v)) e, ih]; simp [e]
end
section
variable {X : Cx}
theorem op_cmp (hu : X.A.units + 65 < cLine) (o : Cm) : OpR X (compareOp (pyCm o)) (rCmp X.K o) := by
  intro pins s σ H x y v u Q I rx ry h
  obtain ⟨F, d, e, r, ft, bd, be, hc, hp⟩ := h
  unfold cmpop at hc
  split at hc
  · rename_i a b
    split at hc
    · rename_i sc
      cases hc
      obtain ⟨h1, h2⟩ := atom_scal bd be sc
      exact op_eq pins s σ H _ _ v u Q I rx ry ⟨h1, by rw [h2]; exact hp⟩
    · obtain ⟨c, rfl⟩ := when_some hc
      rw [Bool.and_eq_true] at c
      obtain ⟨n, hn, s1⟩ := shal_ok c.1
      obtain ⟨m, hm, s2⟩ := shal_ok c.2
      exact op_eqD (by omega) pins s σ H _ _ v u Q I rx ry ⟨_, _, bd.dp hn, be.dp hm, s1, s2, by rw [py_eqv _ _ n m hn hm]; exact hp⟩
  · rename_i a b
    split at hc
    · rename_i sc
      cases hc
      obtain ⟨h1, h2⟩ := atom_scal bd be sc
      exact op_ne pins s σ H _ _ v u Q I rx ry ⟨h1, by rw [h2]; exact hp⟩
    · obtain ⟨c, rfl⟩ := when_some hc
      rw [Bool.and_eq_true] at c
      obtain ⟨n, hn, s1⟩ := shal_ok c.1
      obtain ⟨m, hm, s2⟩ := shal_ok c.2
      exact op_neD (by omega) pins s σ H _ _ v u Q I rx ry ⟨_, _, bd.dp hn, be.dp hm, s1, s2, by rw [py_eqv _ _ n m hn hm]; exact hp⟩
  · rename_i i j
    obtain rfl := rb_int bd; obtain rfl := rb_int be; cases hc
    exact op_lt pins s σ H _ _ v u Q I rx ry ⟨i, j, rfl, rfl, hp⟩
  · rename_i i j
    obtain rfl := rb_int bd; obtain rfl := rb_int be; cases hc
    exact op_le pins s σ H _ _ v u Q I rx ry ⟨i, j, rfl, rfl, hp⟩
  · rename_i i j
    obtain rfl := rb_int bd; obtain rfl := rb_int be; cases hc
    exact op_gt pins s σ H _ _ v u Q I rx ry ⟨i, j, rfl, rfl, hp⟩
  · rename_i i j
    obtain rfl := rb_int bd; obtain rfl := rb_int be; cases hc
    exact op_ge pins s σ H _ _ v u Q I rx ry ⟨i, j, rfl, rfl, hp⟩
  · rename_i a
    obtain rfl := rb_non be; cases hc
    exact op_isN pins s σ H _ _ v u Q I rx ry ⟨rfl, by rw [not_non bd]; exact hp⟩
  · rename_i a
    obtain rfl := rb_non be; cases hc
    exact op_notN pins s σ H _ _ v u Q I rx ry ⟨rfl, by rw [not_non bd]; exact hp⟩
  · rename_i a xs
    obtain ⟨c, rfl⟩ := when_some hc
    rw [Bool.and_eq_true] at c
    obtain ⟨n, hn, s1⟩ := shal_ok c.1
    obtain ⟨m, hm, s2⟩ := shal_ok c.2
    have q := be.dp hm
    rw [D.py] at q s2
    obtain ⟨k, hk⟩ := shals c.2
    exact op_inD (by omega) pins s σ H _ _ v u Q I rx ry ⟨_, _, bd.dp hn, q, s1, s2, by rw [inB_py c.1 xs k hk]; exact hp⟩
  · rename_i a xs
    obtain ⟨b, ws, rfl, hb, qb, _⟩ := rb_tup be
    obtain ⟨c, rfl⟩ := when_some hc
    rw [Bool.and_eq_true] at c
    exact op_in_seq pins s σ H _ _ v u Q I rx ry ⟨b, ws, rfl, .inr hb, atom_flat bd c.1, atoms_flat qb c.2, by rw [atoms_in bd c.1 qb c.2]; exact hp⟩
  · rename_i a xs
    obtain ⟨c, rfl⟩ := when_some hc
    rw [Bool.and_eq_true] at c
    obtain ⟨n, hn, s1⟩ := shal_ok c.1
    obtain ⟨m, hm, s2⟩ := shal_ok c.2
    have q := be.dp hm
    rw [D.py] at q s2
    obtain ⟨k, hk⟩ := shals c.2
    exact op_notInD (by omega) pins s σ H _ _ v u Q I rx ry ⟨_, _, bd.dp hn, q, s1, s2, by rw [inB_py c.1 xs k hk]; exact hp⟩
  · rename_i a xs
    obtain ⟨b, ws, rfl, hb, qb, _⟩ := rb_tup be
    obtain ⟨c, rfl⟩ := when_some hc
    rw [Bool.and_eq_true] at c
    exact op_notIn_seq pins s σ H _ _ v u Q I rx ry ⟨b, ws, rfl, .inr hb, atom_flat bd c.1, atoms_flat qb c.2, by rw [atoms_in bd c.1 qb c.2]; exact hp⟩
  · rename_i a ks vs
    cases q : keyOf d with
    | none => rw [q] at hc; cases hc
    | some k =>
      rw [q] at hc; cases hc
      obtain rfl := keyOf_kV bd q
      obtain ⟨b, ws, rfl, hf, hb, hl, qb⟩ := rb_dic be
      cases ry
      exact d_in (by omega) I (.k hb) rx fun s' I' => ⟨.bl _, H, I', by rw [hasK_valV hl]; rfl, hp⟩
  · rename_i a ks vs
    cases q : keyOf d with
    | none => rw [q] at hc; cases hc
    | some k =>
      rw [q] at hc; cases hc
      obtain rfl := keyOf_kV bd q
      obtain ⟨b, ws, rfl, hf, hb, hl, qb⟩ := rb_dic be
      cases ry
      exact d_notIn (by omega) I (.k hb) rx fun s' I' => ⟨.bl _, H, I', by rw [hasK_valV hl]; rfl, hp⟩
  · rename_i x y
    obtain rfl := rb_str bd; obtain rfl := rb_str be; cases hc
    exact op_in_str pins s σ H _ _ v u Q I rx ry ⟨x, y, rfl, rfl, hp⟩
  · rename_i x y
    obtain rfl := rb_str bd; obtain rfl := rb_str be; cases hc
    exact op_notin_str pins s σ H _ _ v u Q I rx ry ⟨x, y, rfl, rfl, hp⟩
  · cases hc
end
end MP

namespace MP
open PySem PySem.Spec PyProof.Rows L2
section
variable {K : PySem.W.Frag} {H : Hp} {F : FS} {v : V} {vs : List V} {d e : D} {ds : List D}
theorem Reps.atI {i : Int} (r : Reps K H F vs ds) (h : atI ds i = some d) : ∃ v, L2.atI vs i = some v ∧ Rep K H F v d := by
  unfold L2.atI at *
  rw [r.length]
  cases q : ixN ds.length i with
  | none => rw [q] at h; cases h
  | some j =>
    rw [q] at h
    obtain ⟨v, e1, h1⟩ := r.get (show ds[j]? = some d from h)
    exact ⟨v, e1, h1⟩
end
def rIdx (K : PySem.W.Frag) : R2 := fun x y H Q => ∃ F d e s, FT F H ∧ RB K H F x d ∧ RB K H F y e ∧ index d e = some s ∧ Prim K H F s Q
section
variable {X : Cx}
theorem ix_idx (hu : X.A.units + 65 < cLine) : IxR X (rIdx X.K) := by
  intro value sl pins s σ H x y v u Q I rx ry h hs
  obtain ⟨F, d, e, r, ft, bd, be, hc, hp⟩ := h
  unfold index at hc
  split at hc
  · rename_i xs i
    obtain rfl := rb_int be
    obtain ⟨a, vs, rfl, ha, q⟩ := rb_lst bd
    cases z : atI xs i with
    | none => rw [z] at hc; cases hc
    | some w =>
      rw [z] at hc; cases hc
      obtain ⟨w', e1, r1⟩ := q.atI z
      exact ix_seq value sl pins s σ H _ _ v u Q I rx ry (.inl ⟨a, vs, i, w', rfl, rfl, SqL.of ha, e1, hp.val ft r1⟩) hs
  · rename_i xs i
    obtain rfl := rb_int be
    obtain ⟨a, vs, rfl, ha, q, _⟩ := rb_tup bd
    cases z : atI xs i with
    | none => rw [z] at hc; cases hc
    | some w =>
      rw [z] at hc; cases hc
      obtain ⟨w', e1, r1⟩ := q.atI z
      exact ix_seq value sl pins s σ H _ _ v u Q I rx ry (.inr (.inl ⟨a, vs, i, w', rfl, rfl, ha, e1, hp.val ft r1⟩)) hs
  · rename_i z i
    obtain rfl := rb_int be
    obtain rfl := rb_str bd
    split at hc
    · rename_i hz
      cases q : atI z.cps.toList i with
      | none => rw [q] at hc; cases hc
      | some c =>
        rw [q] at hc; cases hc
        exact ix_seq value sl pins s σ H _ _ v u Q I rx ry (.inr (.inr ⟨z, i, c, rfl, rfl, hz, q, hp.val ft (.str _)⟩)) hs
    · cases hc
  · rename_i ks vs
    cases q : keyOf e with
    | none => rw [q] at hc; cases hc
    | some k =>
      rw [q] at hc
      have hc2 : (dlook ks vs k).map Slot.val = some r := hc
      cases q2 : dlook ks vs k with
      | none => rw [q2] at hc2; cases hc2
      | some w =>
        rw [q2] at hc2; cases hc2
        obtain rfl := keyOf_kV be q
        obtain ⟨a, ws, rfl, hf, ha, hl, qb⟩ := rb_dic bd
        obtain ⟨w', e1, r1⟩ := (dlook_valV (k := k) hl qb).1 w q2
        cases rx
        have g : DGet H a (kV k) (some w') := by
          have g0 := DGet.k (k := k) ha
          rw [e1] at g0; exact g0
        exact tail_any (dict_typeIs I g) PySem.F.slot_dict_getitem.lookup (d_getItem (by omega) I g ry fun w2 s3 I3 rw' => ⟨w', H, I3, rw', hp.val ft r1⟩) hs
  · cases hc
def rSli (K : PySem.W.Frag) : V → Option Int → Option Int → Hp → VK → Prop := fun x lo hi H Q => ∃ F d s, FT F H ∧ RB K H F x d ∧ slice d lo hi = some s ∧ Prim K H F s Q
theorem sl_sli : SlR X (rSli X.K) := by
  intro pins s σ H x v vl vu lo hi sl Q I rx hs pl pu h
  obtain ⟨F, d, r, ft, bd, hc, hp⟩ := h
  unfold slice at hc
  split at hc
  · rename_i xs
    cases hc
    obtain ⟨a, vs, rfl, ha, q⟩ := rb_lst bd
    exact sl_list pins s σ H _ v vl vu lo hi sl Q I rx hs pl pu ⟨a, vs, rfl, SqL.of ha, fun p np => hp.lst ft (cutV_rep q lo hi) np⟩
  · rename_i xs
    cases hc
    obtain ⟨a, vs, rfl, ha, q, rr⟩ := rb_tup bd
    refine sl_tupA pins s σ H _ v vl vu lo hi sl Q I rx hs pl pu ⟨a, vs, rfl, ha, fun z => ?_, fun _ p np => hp.tup ft (cutV_rep q lo hi) np⟩
    rw [q.length] at z
    have e : cutD xs lo hi = xs := by
      unfold cutD
      rw [z.1, z.2]; simp
    rw [e] at hp
    exact hp.val ft rr
  · cases hc
/-- built-ins -/
def biId : Bi → Value
  | .len => .builtin "len" | .abs => .builtin "abs" | .int => .type "int" | .str => .type "str" | .max => .builtin "max" | .min => .builtin "min"
  | .sum => .builtin "sum" | .any => .builtin "any" | .all => .builtin "all" | .list => .type "list" | .tuple => .type "tuple" | .sorted => .builtin "sorted"
def RBs (K : PySem.W.Frag) (H : Hp) (F : FS) : List V → List D → Prop := Paired (RB K H F)
def rBi (K : PySem.W.Frag) (b : Bi) : List V → Hp → VK → Prop := fun xs H Q => ∃ F ds s, FT F H ∧ RBs K H F xs ds ∧ bi b ds = some s ∧ Prim K H F s Q
theorem rbs1 {K : PySem.W.Frag} {H : Hp} {F : FS} {xs : List V} {d : D} (h : RBs K H F xs [d]) : ∃ x, xs = [x] ∧ RB K H F x d := by
  cases h with
  | cons r t => cases t; exact ⟨_, rfl, r⟩
theorem rbs2 {K : PySem.W.Frag} {H : Hp} {F : FS} {xs : List V} {d e : D} (h : RBs K H F xs [d, e]) : ∃ x y, xs = [x, y] ∧ RB K H F x d ∧ RB K H F y e := by
  cases h with
  | cons r t => obtain ⟨y, rfl, q⟩ := rbs1 t; exact ⟨_, _, rfl, r, q⟩
theorem maxL_ge : ∀ (r : List Int) (x : Int), (∀ y ∈ r, y ≤ r.foldl max x) ∧ x ≤ r.foldl max x
  | [], x => ⟨fun y h => by simp at h, by simp⟩
  | z :: r, x => by
    have ih := maxL_ge r (max x z)
    simp only [List.foldl_cons]
    refine ⟨fun y h => ?_, by omega⟩
    rcases List.mem_cons.mp h with h | h
    · subst h; omega
    · exact ih.1 y h
theorem minL_le : ∀ (r : List Int) (x : Int), (∀ y ∈ r, r.foldl min x ≤ y) ∧ r.foldl min x ≤ x
  | [], x => ⟨fun y h => by simp at h, by simp⟩
  | z :: r, x => by
    have ih := minL_le r (min x z)
    simp only [List.foldl_cons]
    refine ⟨fun y h => ?_, by omega⟩
    rcases List.mem_cons.mp h with h | h
    · subst h; omega
    · exact ih.1 y h
theorem maxL_mem : ∀ (r : List Int) (x : Int), r.foldl max x = x ∨ r.foldl max x ∈ r
  | [], x => .inl rfl
  | z :: r, x => by
    simp only [List.foldl_cons]
    rcases maxL_mem r (max x z) with h | h
    · rcases (show max x z = x ∨ max x z = z by omega) with e | e
      · left; rw [h, e]
      · right; rw [h, e]; exact List.mem_cons_self
    · right; exact List.mem_cons_of_mem _ h
theorem minL_mem : ∀ (r : List Int) (x : Int), r.foldl min x = x ∨ r.foldl min x ∈ r
  | [], x => .inl rfl
  | z :: r, x => by
    simp only [List.foldl_cons]
    rcases minL_mem r (min x z) with h | h
    · rcases (show min x z = x ∨ min x z = z by omega) with e | e
      · left; rw [h, e]
      · right; rw [h, e]; exact List.mem_cons_self
    · right; exact List.mem_cons_of_mem _ h
theorem maxL_eq {ns : List Int} {m k : Int} (h : maxL ns = some k) (hm : m ∈ ns) (hb : ∀ y, y ∈ ns → y ≤ m) : m = k := by
  cases ns with
  | nil => cases h
  | cons x r =>
    cases h
    have h1 := maxL_ge r x
    have h2 : m ≤ r.foldl max x := (List.mem_cons.mp hm).elim (fun e => by rw [e]; exact h1.2) (h1.1 m)
    have h3 : r.foldl max x ≤ m := (maxL_mem r x).elim (fun e => by rw [e]; exact hb x List.mem_cons_self) fun q => hb _ (List.mem_cons_of_mem _ q)
    omega
theorem minL_eq {ns : List Int} {m k : Int} (h : minL ns = some k) (hm : m ∈ ns) (hb : ∀ y, y ∈ ns → m ≤ y) : m = k := by
  cases ns with
  | nil => cases h
  | cons x r =>
    cases h
    have h1 := minL_le r x
    have h2 : r.foldl min x ≤ m := (List.mem_cons.mp hm).elim (fun e => by rw [e]; exact h1.2) (h1.1 m)
    have h3 : m ≤ r.foldl min x := (minL_mem r x).elim (fun e => by rw [e]; exact hb x List.mem_cons_self) fun q => hb _ (List.mem_cons_of_mem _ q)
    omega
theorem isort_eq {ns ms : List Int} (p : ms.Perm ns) (h : ms.Pairwise (· ≤ ·)) : ms = isort ns := by
  have h1 : (isort ns).Perm ns := List.mergeSort_perm _ _
  have h2 : (isort ns).Pairwise (fun a b => decide (a ≤ b) = true) := List.pairwise_mergeSort (fun a b c => by simp only [decide_eq_true_eq]; omega) (fun a b => by simp only [Bool.or_eq_true, decide_eq_true_eq]; omega) ns
  exact List.Perm.eq_of_pairwise (le := fun a b => a ≤ b) (fun a b _ _ h1 h2 => Int.le_antisymm h1 h2) h (h2.imp fun h => of_decide_eq_true h) (p.trans h1.symm)
theorem call_bi (hcalm : X.calm = true) (b : Bi) : CallR X (biId b) (rBi X.K b) := by
  intro pins s σ H xs us Q I r h
  obtain ⟨F, ds, z, ft, rbb, hc, hp⟩ := h
  unfold bi at hc
  split at hc
  · obtain ⟨x, rfl, rb⟩ := rbs1 rbb
    obtain ⟨a, vs, rfl, ha, q⟩ := rb_lst rb
    cases hc
    exact call_len_seq pins s σ H _ us Q I r ⟨a, vs, rfl, .inl (SqL.of ha), by rw [q.length]; exact hp.val ft (.int _)⟩
  · rename_i ns
    obtain ⟨x, rfl, rb⟩ := rbs1 rbb
    obtain ⟨a, rfl, ha⟩ := rb_scr rb
    cases hc
    exact call_len_seq pins s σ H _ us Q I r ⟨a, _, rfl, .inl ha, by rw [List.length_map]; exact hp.val ft (.int _)⟩
  · obtain ⟨x, rfl, rb⟩ := rbs1 rbb
    obtain ⟨a, vs, rfl, ha, q, _⟩ := rb_tup rb
    cases hc
    exact call_len_seq pins s σ H _ us Q I r ⟨a, vs, rfl, .inr ha, by rw [q.length]; exact hp.val ft (.int _)⟩
  · obtain ⟨x, rfl, rb⟩ := rbs1 rbb
    obtain rfl := rb_str rb
    obtain ⟨c, rfl⟩ := when_some hc
    exact call_len_str pins s σ H _ us Q I r ⟨_, rfl, of_decide_eq_true c, hp.val ft (.int _)⟩
  · obtain ⟨x, rfl, rb⟩ := rbs1 rbb
    obtain rfl := rb_int rb
    cases hc
    exact call_abs pins s σ H _ us Q I r ⟨_, rfl, hp.val ft (.int _)⟩
  · obtain ⟨x, rfl, rb⟩ := rbs1 rbb
    obtain rfl := rb_int rb
    cases hc
    exact call_int1 pins s σ H _ us Q I r (.inl ⟨_, rfl, hp.val ft (.int _)⟩)
  · obtain ⟨x, rfl, rb⟩ := rbs1 rbb
    obtain rfl := rb_bl rb
    cases hc
    exact call_int1 pins s σ H _ us Q I r (.inr ⟨_, rfl, hp.val ft (.int _)⟩)
  · obtain ⟨x, rfl, rb⟩ := rbs1 rbb
    obtain rfl := rb_int rb
    obtain ⟨c, rfl⟩ := when_some hc
    exact call_str_int pins s σ H _ us Q I r ⟨_, rfl, of_decide_eq_true c, hp.val ft (.str _)⟩
  · obtain ⟨x, y, rfl, rb, rb2⟩ := rbs2 rbb
    obtain rfl := rb_int rb; obtain rfl := rb_int rb2
    cases hc
    exact call_max2 hcalm pins s σ H _ us Q I r ⟨_, _, rfl, hp.val ft (.int _)⟩
  · obtain ⟨x, y, rfl, rb, rb2⟩ := rbs2 rbb
    obtain rfl := rb_int rb; obtain rfl := rb_int rb2
    cases hc
    exact call_min2 hcalm pins s σ H _ us Q I r ⟨_, _, rfl, hp.val ft (.int _)⟩
  · rename_i xs
    obtain ⟨x, rfl, rb⟩ := rbs1 rbb
    obtain ⟨a, vs, rfl, ha, q⟩ := rb_lst rb
    cases e1 : intsOf xs with
    | none => rw [e1] at hc; cases hc
    | some ns =>
      rw [e1] at hc
      have hc2 : (maxL ns).map (fun m => Slot.val (.int m)) = some z := hc
      cases e2 : maxL ns with
      | none => rw [e2] at hc2; cases hc2
      | some k =>
        rw [e2] at hc2; cases hc2
        obtain ⟨rfl, _⟩ := q.ints e1
        refine cr_max hcalm pins s σ H _ us Q I r ⟨a, ns, rfl, SqL.of ha, ?_, fun m h1 h2 => by rw [maxL_eq e2 h1 h2]; exact hp.val ft (.int _)⟩
        cases ns with
        | nil => cases e2
        | cons _ _ => simp
  · rename_i xs
    obtain ⟨x, rfl, rb⟩ := rbs1 rbb
    obtain ⟨a, vs, rfl, ha, q⟩ := rb_lst rb
    cases e1 : intsOf xs with
    | none => rw [e1] at hc; cases hc
    | some ns =>
      rw [e1] at hc
      have hc2 : (minL ns).map (fun m => Slot.val (.int m)) = some z := hc
      cases e2 : minL ns with
      | none => rw [e2] at hc2; cases hc2
      | some k =>
        rw [e2] at hc2; cases hc2
        obtain ⟨rfl, _⟩ := q.ints e1
        refine cr_min hcalm pins s σ H _ us Q I r ⟨a, ns, rfl, SqL.of ha, ?_, fun m h1 h2 => by rw [minL_eq e2 h1 h2]; exact hp.val ft (.int _)⟩
        cases ns with
        | nil => cases e2
        | cons _ _ => simp
  · rename_i xs
    obtain ⟨x, rfl, rb⟩ := rbs1 rbb
    obtain ⟨a, vs, rfl, ha, q⟩ := rb_lst rb
    cases e1 : intsOf xs with
    | none => rw [e1] at hc; cases hc
    | some ns =>
      rw [e1] at hc; cases hc
      obtain ⟨rfl, _⟩ := q.ints e1
      exact cr_sum hcalm pins s σ H _ us Q I r ⟨a, ns, rfl, SqL.of ha, hp.val ft (.int _)⟩
  · rename_i xs
    obtain ⟨x, rfl, rb⟩ := rbs1 rbb
    obtain ⟨a, vs, rfl, ha, q⟩ := rb_lst rb
    cases e1 : blsOf xs with
    | none => rw [e1] at hc; cases hc
    | some ns =>
      rw [e1] at hc; cases hc
      obtain ⟨rfl, _⟩ := q.bls e1
      exact cr_any hcalm pins s σ H _ us Q I r ⟨a, ns, rfl, SqL.of ha, hp.val ft (.bl _)⟩
  · rename_i xs
    obtain ⟨x, rfl, rb⟩ := rbs1 rbb
    obtain ⟨a, vs, rfl, ha, q⟩ := rb_lst rb
    cases e1 : blsOf xs with
    | none => rw [e1] at hc; cases hc
    | some ns =>
      rw [e1] at hc; cases hc
      obtain ⟨rfl, _⟩ := q.bls e1
      exact cr_all hcalm pins s σ H _ us Q I r ⟨a, ns, rfl, SqL.of ha, hp.val ft (.bl _)⟩
  · obtain ⟨x, rfl, rb⟩ := rbs1 rbb
    obtain ⟨a, vs, rfl, ha, q⟩ := rb_lst rb
    cases hc
    exact call_list_of pins s σ H _ us Q I r ⟨a, vs, rfl, .inl (SqL.of ha), fun p np => hp.lst ft q np⟩
  · obtain ⟨x, rfl, rb⟩ := rbs1 rbb
    obtain ⟨a, vs, rfl, ha, q, _⟩ := rb_tup rb
    cases hc
    exact call_list_of pins s σ H _ us Q I r ⟨a, vs, rfl, .inr ha, fun p np => hp.lst ft q np⟩
  · obtain ⟨x, rfl, rb⟩ := rbs1 rbb
    obtain ⟨a, rfl, ha⟩ := rb_scr rb
    cases hc
    exact call_list_of pins s σ H _ us Q I r ⟨a, _, rfl, .inl ha, fun p np => hp.lst ft (Reps.ofInts _) np⟩
  · obtain ⟨x, rfl, rb⟩ := rbs1 rbb
    obtain ⟨a, vs, rfl, ha, q⟩ := rb_lst rb
    cases hc
    exact call_tuple_of pins s σ H _ us Q I r ⟨a, vs, rfl, .inl ⟨SqL.of ha, fun p np => hp.tup ft q np⟩⟩
  · obtain ⟨x, rfl, rb⟩ := rbs1 rbb
    obtain ⟨a, vs, rfl, ha, q, rr⟩ := rb_tup rb
    cases hc
    exact call_tuple_of pins s σ H _ us Q I r ⟨a, vs, rfl, .inr ⟨ha, hp.val ft rr⟩⟩
  · rename_i xs
    obtain ⟨x, rfl, rb⟩ := rbs1 rbb
    obtain ⟨a, vs, rfl, ha, q⟩ := rb_lst rb
    cases e1 : intsOf xs with
    | none => rw [e1] at hc; cases hc
    | some ns =>
      rw [e1] at hc
      have hc : some (Slot.own ((isort ns).map .int)) = some z := hc
      cases hc
      obtain ⟨rfl, _⟩ := q.ints e1
      refine cr_sortedI pins s σ H _ us Q I r ⟨a, ns, rfl, SqL.of ha, fun ms p h1 h2 np => ?_⟩
      rw [isort_eq h1 h2]
      exact hp.lst ft (Reps.ofInts _) np
  · cases hc
def tyN : Ty → String
  | .int => "int" | .bool => "bool" | .str => "str" | .list => "list" | .tuple => "tuple"
theorem call_isiD (t : Ty) {pins : List (Addr × Obj)} {s : Shared} {σ : Sg} {H : Hp} {F : FS} {x : V} {us : List Value} {d : D} {b : Bool} {Q : VK} (I : Inv X pins σ H s) (r : Vals [x, .ty (tyN t)] us) (rb : RB X.K H F x d) (h : d.isTy t = some b) (hq : Q (.bl b) H) :
    wpAny (model X.prog X.w) X.A (call (.builtin "isinstance") us) (EP X pins σ Q) X.xe s := by
  have key : ∀ (tn : String), TyX X.K H x (.type tn) → kitB tn (tyN t) = some b → wpAny (model X.prog X.w) X.A (call (.builtin "isinstance") us) (EP X pins σ Q) X.xe s := fun tn h1 h2 =>
    call_isi pins s σ H _ us Q I r ⟨x, .ty (tyN t), .type tn, .type (tyN t), b, rfl, .ty _, h1, kit_ty h2, hq⟩
  cases d with
  | non => obtain rfl := rb_non rb; refine key "NoneType" (.base .non) ?_; cases t <;> cases h <;> decide +kernel
  | bl b => obtain rfl := rb_bl rb; refine key "bool" (.base (.bl _)) ?_; cases t <;> cases h <;> decide +kernel
  | int b => obtain rfl := rb_int rb; refine key "int" (.base (.int _)) ?_; cases t <;> cases h <;> decide +kernel
  | str b => obtain rfl := rb_str rb; refine key "str" (.base (.str _)) ?_; cases t <;> cases h <;> decide +kernel
  | dic _ _ => cases t <;> cases h
  | scr _ => cases t <;> cases h
  | lst ds =>
    obtain ⟨a, vs, rfl, ha, q⟩ := rb_lst rb
    refine key "list" (.base (.lst ha)) ?_; cases t <;> cases h <;> decide +kernel
  | tup ds =>
    have hh : TyX X.K H x (.type "tuple") := by
      rcases rb with rb | ⟨_, _, _, _, e, _⟩
      · cases rb with
        | tup t _ =>
          rcases t with ⟨_, t⟩ | ⟨o, _, _, e1, e2, _⟩
          · exact .base (.tup t)
          · exact .kTuple e1 e2
      · cases e
    refine key "tuple" hh ?_; cases t <;> cases h <;> decide +kernel
end
end MP

/-! MP: readings out of the evaluator. -/
namespace MP
open PySem PySem.Spec PyProof.Rows L2
/-- the error x is the class c, its own dict d -/
def RX (K : PySem.W.Frag) (mg : Str → Option Value) (H : Hp) (F : FS) (x : Exn) (c : Value) (d : Option Addr) : Prop :=
  ∃ C, mg x.c = some (.ref C) ∧ c = .ref C ∧ x.ns.length = x.vs.length ∧ (x.ns ≠ [] → ∃ dd vs, d = some dd ∧ F dd ∧ H dd = some (.xd (x.ns.zip vs)) ∧ Reps K H F vs x.vs)
/-- a relation of results; where a result comes from -/
abbrev Rl (α ρ : Type) := Sg → Hp → FS → Fr → α → ρ → Prop
abbrev Gn (α ρ : Type) := Sg → Hp → Fr → α → ρ → Prop
section
variable (K : PySem.W.Frag) (mg : Str → Option Value) (W : WX)
def Fin {α ρ : Type} (R : Rl α ρ) (G : Gn α ρ) (σ : Sg) (H : Hp) (F : FS) (fr : Fr) (o : Out α) (Q : ρ → Hp → Prop) : Prop := match o with
  | .ok a fr' => ∀ r H' F', Nx K σ H F fr fr' H' F' → R σ H' F' fr' a r → G σ H fr a r → Q r H'
  | .ex x fr' => ∀ c d H' F', Nx K σ H F fr fr' H' F' → RX K mg H' F' x c d → W c d σ H'
  | .bad => False
/-- THE READING of what the evaluator does -/
def Sm {α ρ : Type} (R : Rl α ρ) (G : Gn α ρ) (m : M α) : Sg → Hp → (ρ → Hp → Prop) → Prop := fun σ H Q => ∃ F fr, Fm K H F fr σ ∧ Fin K mg W R G σ H F fr (m fr) Q
end
def GT {α ρ : Type} : Gn α ρ := fun _ _ _ _ _ => True
/-- what comes from later comes from earlier -/
structure Ante {α ρ : Type} (K : PySem.W.Frag) (G : Gn α ρ) : Prop where
  ok : ∀ {σ : Sg} {H H1 : Hp} {F F1 : FS} {fr fr1 : Fr} {a : α} {r : ρ}, Nx K σ H F fr fr1 H1 F1 → G σ H1 fr1 a r → G σ H fr a r
theorem ante_T {α ρ : Type} {K : PySem.W.Frag} : Ante K (GT : Gn α ρ) := ⟨fun _ h => h⟩
theorem ante_From {K : PySem.W.Frag} : Ante K From := ⟨fun {σ H H1 F F1 fr fr1 a r} n h ds b e1 e2 => (h ds b e1 e2).elim (fun h => .inl (n.own _ h)) fun h => by
  by_cases q : H b = none
  · exact .inr q
  · exact absurd h (n.trk b q)⟩
section
variable {K : PySem.W.Frag} {mg : Str → Option Value} {W : WX} {α β ρ τ : Type} {R : Rl α ρ} {G : Gn α ρ} {R2 : Rl β τ} {G2 : Gn β τ} {σ : Sg} {H H1 : Hp} {F F1 : FS} {fr fr1 : Fr}
theorem Fin.rebase (f : Fm K H F fr σ) (n : Nx K σ H F fr fr1 H1 F1) (hG : Ante K G) {o : Out α} {Q : ρ → Hp → Prop} (h : Fin K mg W R G σ H F fr o Q) : Fin K mg W R G σ H1 F1 fr1 o Q := by
  cases o with
  | bad => exact h
  | ok a fr2 => exact fun r H' F' n2 hr hg => h r H' F' (n.trans f n2) hr (hG.ok n hg)
  | ex x fr2 => exact fun c d H' F' n2 hx => h c d H' F' (n.trans f n2) hx
/-- THE STEP: a part runs, then the rest -/
theorem Fin.bnd (f : Fm K H F fr σ) (hG : Ante K G2) {m : M α} {k : α → M β} {Q : τ → Hp → Prop} (R : Rl α ρ) (G : Gn α ρ) (h : Fin K mg W R2 G2 σ H F fr (MP.bnd m k fr) Q) {P : ρ → Hp → Prop}
    (hP : ∀ a r H1 F1 fr1, Nx K σ H F fr fr1 H1 F1 → R σ H1 F1 fr1 a r → G σ H fr a r → Fin K mg W R2 G2 σ H1 F1 fr1 (k a fr1) Q → P r H1) : Fin K mg W R G σ H F fr (m fr) P := by
  unfold MP.bnd at h
  cases q : m fr with
  | bad => rw [q] at h; exact h
  | ex x fr1 => rw [q] at h; exact h
  | ok a fr1 =>
    rw [q] at h
    exact fun r H' F' n hr hg => hP a r H' F' fr1 n hr hg (Fin.rebase f n hG h)
/-- the same, all of it told from the start -/
theorem Fin.bnd' (f : Fm K H F fr σ) (n : Nx K σ H F fr fr1 H1 F1) {m : M α} {k : α → M β} {Q : τ → Hp → Prop} (R : Rl α ρ) (G : Gn α ρ) (h : Fin K mg W R2 G2 σ H F fr (MP.bnd m k fr1) Q) {P : ρ → Hp → Prop}
    (hP : ∀ a r H2 F2 fr2, Nx K σ H1 F1 fr1 fr2 H2 F2 → R σ H2 F2 fr2 a r → G σ H1 fr1 a r → Fin K mg W R2 G2 σ H F fr (k a fr2) Q → P r H2) : Fin K mg W R G σ H1 F1 fr1 (m fr1) P := by
  unfold MP.bnd at h
  cases q : m fr1 with
  | bad => rw [q] at h; exact h
  | ex x fr2 =>
    rw [q] at h
    exact fun c d H' F' n2 hx => h c d H' F' (n.trans f n2) hx
  | ok a fr2 =>
    rw [q] at h
    exact fun r H' F' n2 hr hg => hP a r H' F' fr2 n2 hr hg h
theorem Fin.opt {x : Option α} {k : α → M β} {Q : τ → Hp → Prop} (h : Fin K mg W R2 G2 σ H F fr (MP.bnd (MP.opt x) k fr) Q) : ∃ a, x = some a ∧ Fin K mg W R2 G2 σ H F fr (k a fr) Q := by
  cases x with
  | none => exact h.elim
  | some a => exact ⟨a, rfl, h⟩
theorem Fin.opt1 {x : Option β} {Q : τ → Hp → Prop} (h : Fin K mg W R2 G2 σ H F fr (MP.opt x fr) Q) : ∃ a, x = some a ∧ Fin K mg W R2 G2 σ H F fr (.ok a fr) Q := by
  cases x with
  | none => exact h.elim
  | some a => exact ⟨a, rfl, h⟩
theorem Fin.rdO {o : Opd} {v : V} {k : D → M β} {Q : τ → Hp → Prop} (f : Fm K H F fr σ) (r : RO K σ H F fr o v) (h : Fin K mg W R2 G2 σ H F fr (MP.bnd (rdO o) k fr) Q) : ∃ d, RB K H F v d ∧ Fin K mg W R2 G2 σ H F fr (k d fr) Q := by
  unfold MP.bnd at h
  cases q : MP.rdO o fr with
  | bad => rw [q] at h; exact h.elim
  | ex x fr' =>
    exfalso
    cases o with
    | «at» i => cases y : (fr.sl i).d? <;> simp [MP.rdO, MP.opt, y, MP.ret, MP.bad] at q
    | sl s => cases y : s.d? <;> simp [MP.rdO, MP.opt, y, MP.ret, MP.bad] at q
  | ok d fr' =>
    rw [q] at h
    obtain ⟨rfl, rb⟩ := rdO_ok f r q
    exact ⟨d, rb, h⟩
theorem Fin.done {a : α} {r : ρ} {Q : ρ → Hp → Prop} (f : Fm K H F fr σ) (h : Fin K mg W R G σ H F fr (.ok a fr) Q) (hr : R σ H F fr a r) (hg : G σ H fr a r) : Q r H := h r H F (.refl f) hr hg
/-- a step by values gives the result -/
theorem Fin.prim {s : Slot} {Q : VK} (f : Fm K H F fr σ) (h : Fin K mg W (RS K) From σ H F fr (.ok s fr) Q) : Prim K H F s Q := fun v H' F' g r => h v H' F' (g.nx f) (r.rs g f).1 (r.rs g f).2
end
section
variable {X : Cx} {W : WX}
theorem PE_imp {e : Expr} {t t' : TE} (h : PE X e t) (i : ∀ σ H Q, t' σ H Q → t σ H Q) : PE X e t' := ⟨fun pins s σ H Q I q => h.run pins s σ H Q I (i σ H Q q)⟩
theorem PT_imp {e : Expr} {t t' : TT} (h : PT X e t) (i : ∀ σ H Q, t' σ H Q → t σ H Q) : PT X e t' := ⟨fun pins s σ H Q I q => h.run pins s σ H Q I (i σ H Q q)⟩
theorem PW_imp {e : Expr} {t t' : TT} (h : PW X e t) (i : ∀ σ H Q, t' σ H Q → t σ H Q) : PW X e t' := ⟨fun w pins s σ H Q I q => h.run w pins s σ H Q I (i σ H Q q)⟩
theorem PA_imp {e : List Expr} {t t' : TA} (h : PA X e t) (i : ∀ σ H Q, t' σ H Q → t σ H Q) : PA X e t' := ⟨fun p pins s σ H Q I q => h.run p pins s σ H Q I (i σ H Q q)⟩
theorem PS_imp {e : Stmt} {t t' : TS} (h : PS X e t) (i : ∀ D σ H, t' D σ H → t D σ H) : PS X e t' := ⟨fun pins s σ H Q I q => h.run pins s σ H Q I (i Q σ H q)⟩
theorem PSs_imp {e : List Stmt} {t t' : TS} (h : PSs X e t) (i : ∀ D σ H, t' D σ H → t D σ H) : PSs X e t' := ⟨fun pins s σ H Q I q => h.run pins s σ H Q I (i Q σ H q)⟩
/-- readings of an expression's value, of a test, of an operand -/
abbrev mV (X : Cx) (W : WX) (m : M Slot) : TE := Sm X.K X.mg W (RS X.K) From m
def RT : Rl Bool Bool := fun _ _ _ _ b r => b = r
abbrev mT (X : Cx) (W : WX) (m : M Bool) : TT := Sm X.K X.mg W RT GT m
def FromO (σ : Sg) (H : Hp) (fr : Fr) : Opd → V → Prop
  | .at _, _ => True
  | .sl s, v => From σ H fr s v
theorem ante_FromO {K : PySem.W.Frag} : Ante K FromO := ⟨fun {σ H H1 F F1 fr fr1 a r} n h => by
  cases a with
  | «at» i => trivial
  | sl s => exact ante_From.ok n h⟩
abbrev mO (X : Cx) (W : WX) (m : M Opd) : TE := Sm X.K X.mg W (RO X.K) FromO m
/-- values that are kept -/
def RD (K : PySem.W.Frag) : Rl D V := fun _ H F _ d v => Rep K H F v d
abbrev mD (X : Cx) (W : WX) (m : M D) : TE := Sm X.K X.mg W (RD X.K) GT m
def RDs (K : PySem.W.Frag) : Rl (List D) (List V) := fun _ H F _ d v => Reps K H F v d
abbrev mDs (X : Cx) (W : WX) (m : M (List D)) : TA := Sm X.K X.mg W (RDs X.K) GT m
def ROs (K : PySem.W.Frag) : Rl (List Opd) (List V) := fun σ H F fr os vs => Paired (fun v o => RO K σ H F fr o v) vs os
def FromOs : Gn (List Opd) (List V) := fun σ H fr os vs => Paired (fun v o => FromO σ H fr o v) vs os
theorem ante_FromOs {K : PySem.W.Frag} : Ante K FromOs := ⟨fun {σ H H1 F F1 fr fr1 a r} n h => L2.Paired.mapP h fun v o q => ante_FromO.ok n q⟩
abbrev mOs (X : Cx) (W : WX) (m : M (List Opd)) : TA := Sm X.K X.mg W (ROs X.K) FromOs m

theorem sm_fz {e : Expr} {m : M Slot} (h : PE X e (mV X W m)) : PE X e (mD X W (fz m)) := by
  refine PE_imp h fun σ H Q ⟨F, fr, f, q⟩ => ⟨F, fr, f, ?_⟩
  unfold fz at q
  unfold MP.bnd at q
  cases z : m fr with
  | bad => rw [z] at q; exact q
  | ex x fr' => rw [z] at q; exact q
  | ok s fr' =>
    rw [z] at q
    have q : Fin X.K X.mg W (RD X.K) GT σ H F fr (opt s.d? fr') Q := q
    cases y : s.d? with
    | none => rw [y] at q; exact q.elim
    | some d =>
      rw [y] at q
      intro v H' F' n r g
      obtain ⟨F2, n2, rr⟩ := RS.freeze f n r g y
      exact q v H' F2 n2 rr trivial
theorem sm_op {e : Expr} {m : M Slot} (h : PE X e (mV X W m)) : PE X e (mO X W (MP.bnd m fun s => ret (.sl s))) := by
  refine PE_imp h fun σ H Q ⟨F, fr, f, q⟩ => ⟨F, fr, f, ?_⟩
  unfold MP.bnd at q
  cases z : m fr with
  | bad => rw [z] at q; exact q
  | ex x fr' => rw [z] at q; exact q
  | ok s fr' => rw [z] at q; exact q
/-- one slot is turned, the heap stays -/
theorem Nx.slot {K : PySem.W.Frag} {H : Hp} {F F' : FS} {fr : Fr} {σ : Sg} {i : Nat} {s' : Slot} (f : Fm K H F fr σ) (sub : ∀ a, F a → F' a)
    (lim : ∀ a, F' a → F a ∨ ((fr.sl i).isHeld = true ∧ sv σ i = some (.ref a) ∧ s'.isHeld = false)) (hs : SlotOk K H F' s' (sv σ i))
    (hh : s'.isHeld = true → (fr.sl i).isHeld = true) (ho : s'.isOwn = true → (fr.sl i).isOwn = true) : Nx K σ H F fr (fr.set i s') H F' := by
  have held : ∀ a, (fr.sl i).isHeld = true → sv σ i = some (.ref a) → Own fr σ a ∨ Lok fr σ a := fun a h e => by
    unfold Slot.isHeld at h
    rw [Bool.or_eq_true] at h
    exact h.elim (fun h => .inl ⟨i, h, e⟩) fun h => .inr ⟨i, h, e⟩
  have ldH : ∀ j, (Fr.sl (fr.set i s') j).isHeld = true → (fr.sl j).isHeld = true := fun j hj => by
    rw [sl_set] at hj
    split at hj
    · rename_i e; obtain ⟨rfl, _⟩ := e; exact hh hj
    · exact hj
  refine ⟨⟨by rw [List.length_set]; exact f.len, fun j => ?_, fun j k a hj hk ej ek => f.dis j k a (ldH j hj) (ldH k hk) ej ek, fun a ha => ?_⟩, sub, fun _ h => h, fun _ _ _ => rfl, fun a ha hno hnl q => ?_, fun j hj => ?_, ldH⟩
  · rw [sl_set]
    split
    · rename_i e; obtain ⟨rfl, _⟩ := e; exact hs
    · rename_i ne
      have r := f.rep j
      have key : ∀ b, (fr.sl j).isHeld = true → sv σ j = some (.ref b) → ¬ F b → ¬ F' b := fun b hb eb nf q => by
        rcases lim b q with q | ⟨h1, h2, h3⟩
        · exact nf q
        · have e := f.dis i j b h1 hb h2 eb
          subst e
          refine ne ⟨rfl, sl_lt fun e => ?_⟩
          rw [e] at h1; cases h1
      cases y : fr.sl j with
      | un => trivial
      | val d =>
        rw [y] at r
        obtain ⟨x, ex, r⟩ := r
        exact ⟨x, ex, r.mono sub fun _ _ => rfl⟩
      | own ds =>
        rw [y] at r
        obtain ⟨b, vs, ex, h1, r, nf⟩ := r
        exact ⟨b, vs, ex, h1, r.mono sub fun _ _ => rfl, key b (by rw [y]; rfl) ex nf⟩
      | lk ds =>
        rw [y] at r
        obtain ⟨b, vs, ex, h1, r, nf⟩ := r
        exact ⟨b, vs, ex, h1, r.mono sub fun _ _ => rfl, key b (by rw [y]; rfl) ex nf⟩
  · rcases lim a ha with q | ⟨h1, h2, _⟩
    · exact f.ft a q
    · intro z
      rcases held a h1 h2 with o | o
      · obtain ⟨⟨vs, e⟩, _⟩ := f.own o
        rw [z] at e; cases e
      · obtain ⟨⟨vs, e⟩, _⟩ := f.lok o
        rw [z] at e; cases e
  · rcases lim a q with q | ⟨h1, h2, _⟩
    · exact q
    · exact ((held a h1 h2).elim hno hnl).elim
  · rw [sl_set] at hj
    split at hj
    · rename_i e; obtain ⟨rfl, _⟩ := e; exact ho hj
    · exact hj
theorem Fm.cap {K : PySem.W.Frag} {H : Hp} {F : FS} {fr : Fr} {σ : Sg} {i : Nat} {d : D} (f : Fm K H F fr σ) (z : (fr.sl i).d? = some d) : ∃ F' v, sv σ i = some v ∧ Nx K σ H F fr (fr.set i (.val d)) H F' ∧ Rep K H F' v d := by
  have r := f.rep i
  have go : ∀ a vs ds, (fr.sl i).isHeld = true → d = .lst ds → sv σ i = some (.ref a) → H a = some (.lst vs) → Reps K H F vs ds → ∃ F' v, sv σ i = some v ∧ Nx K σ H F fr (fr.set i (.val d)) H F' ∧ Rep K H F' v d := by
    intro a vs ds hh e ev h q
    subst e
    have sub : ∀ b, F b → (F b ∨ b = a) := fun b h => .inl h
    have rr : Rep K H (fun b => F b ∨ b = a) (.ref a) (.lst ds) := .lst ⟨.inr rfl, h⟩ (q.mono sub fun _ _ => rfl)
    exact ⟨_, _, ev, Nx.slot f sub (fun b hb => hb.elim .inl fun e => .inr ⟨hh, by rw [e]; exact ev, rfl⟩) ⟨_, ev, rr⟩ (fun h => by cases h) (fun h => by cases h), rr⟩
  cases y : fr.sl i with
  | un => rw [y] at z; cases z
  | val d' =>
    rw [y] at r z; cases z
    obtain ⟨x, ex, r⟩ := r
    exact ⟨F, x, ex, Nx.slot f (fun _ h => h) (fun _ h => .inl h) ⟨x, ex, r⟩ (fun h => by cases h) (fun h => by cases h), r⟩
  | own ds =>
    rw [y] at r z; cases z
    obtain ⟨a, vs, ex, h, q, _⟩ := r
    exact go a vs ds (by rw [y]; rfl) rfl ex h q
  | lk ds =>
    rw [y] at r z; cases z
    obtain ⟨a, vs, ex, h, q, _⟩ := r
    exact go a vs ds (by rw [y]; rfl) rfl ex h q
theorem sv_some {σ : Sg} {i : Nat} {v : V} (h : sv σ i = some v) : σ[i]? = some (some v) := by
  unfold sv at h
  cases q : σ[i]? with
  | none => rw [q] at h; cases h
  | some o => rw [q] at h; exact congrArg some h
/-- a name, read to be kept -/
theorem sm_var {i : Nat} {e : Expr} (h : PE X e (tVar i)) : PE X e (mV X W (cap i)) := by
  refine PE_imp h fun σ H Q ⟨F, fr, f, q⟩ => ?_
  unfold MP.cap at q
  cases z : (fr.sl i).d? with
  | none => rw [z] at q; exact q.elim
  | some d =>
    rw [z] at q
    obtain ⟨F', v, ev, n, r⟩ := f.cap z
    exact ⟨v, sv_some ev, q v H F' n r fun ds a e => by cases e⟩
/-- a name as an operand -/
theorem sm_at {i : Nat} {e : Expr} (h : PE X e (tVar i)) : PE X e (mO X W (opAt i)) := by
  refine PE_imp h fun σ H Q ⟨F, fr, f, q⟩ => ?_
  have r := f.rep i
  unfold opAt at q
  cases y : fr.sl i with
  | un => rw [y] at q; exact q.elim
  | val d =>
    rw [y] at q r
    obtain ⟨x, ex, r⟩ := r
    exact ⟨x, sv_some ex, q x H F (.refl f) ex trivial⟩
  | own d =>
    rw [y] at q r
    obtain ⟨a, vs, ex, r⟩ := r
    exact ⟨_, sv_some ex, q _ H F (.refl f) ex trivial⟩
  | lk d =>
    rw [y] at q r
    obtain ⟨a, vs, ex, r⟩ := r
    exact ⟨_, sv_some ex, q _ H F (.refl f) ex trivial⟩
end
end MP

/-! MP: construct by construct. -/
namespace MP
open PySem PySem.Spec PyProof.Rows L2
section
variable {K : PySem.W.Frag} {H : Hp} {F : FS} {v : V} {d : D} {k : Bool}
theorem tru_rb (r : RB K H F v d) (h : truth d = some k) : TruV K v H k := by
  cases d with
  | non => obtain rfl := rb_non r; cases h; rfl
  | bl b => obtain rfl := rb_bl r; cases h; rfl
  | int i => obtain rfl := rb_int r; cases h; rfl
  | str x =>
    obtain rfl := rb_str r
    obtain ⟨c, rfl⟩ := when_some h
    exact ⟨of_decide_eq_true c, rfl⟩
  | tup ds =>
    obtain ⟨a, vs, rfl, ha, q, _⟩ := rb_tup r
    cases h
    exact .inr (.inl ⟨vs, ha, by rw [q.isEmpty]⟩)
  | lst ds =>
    obtain ⟨a, vs, rfl, ha, q⟩ := rb_lst r
    cases h
    exact .inl ⟨vs, SqL.of ha, by rw [q.isEmpty]⟩
  | dic _ _ => cases h
  | scr _ => cases h
end
section
variable {X : Cx} {W : WX}
theorem pe_bad {e : Expr} : PE X e (mV X W bad) := ⟨fun _ _ _ _ _ _ ⟨_, _, _, q⟩ => q.elim⟩
theorem pt_bad {e : Expr} : PT X e (mT X W bad) := ⟨fun _ _ _ _ _ _ ⟨_, _, _, q⟩ => q.elim⟩
theorem sm_const {e : Expr} {v : V} {d : D} (h : PE X e (tC v)) (r : ∀ H F, Rep X.K H F v d) : PE X e (mV X W (ret (.val d))) :=
  PE_imp h fun σ H Q ⟨F, fr, f, q⟩ => q v H F (.refl f) (r H F) fun ds a e => by cases e
theorem sm_bin {a b : Expr} {pos : Pos} {ma mb : M Opd} {o : Op} (ha : PE X a (mO X W ma)) (hb : PE X b (mO X W mb)) :
    PE X (.BinOp a (pyOp o) b pos) (mV X W (bnd ma fun x => bnd mb fun y => bnd (rdO x) fun d => bnd (rdO y) fun e => opt (binop o d e))) := by
  refine PE_imp (pe_op (op_bin o) ha hb) fun σ H Q ⟨F, fr, f, q⟩ => ⟨F, fr, f, Fin.bnd f ante_From _ _ q fun x v H1 F1 fr1 n1 r1 g1 q1 => ⟨F1, fr1, n1.fm, Fin.bnd n1.fm ante_From _ _ q1 fun y w H2 F2 fr2 n2 r2 g2 q2 => ?_⟩⟩
  obtain ⟨d, rd, q3⟩ := Fin.rdO n2.fm (n2.ro n1.fm r1) q2
  obtain ⟨e, re, q4⟩ := Fin.rdO n2.fm r2 q3
  obtain ⟨s, es, q5⟩ := Fin.opt1 q4
  exact ⟨F2, d, e, s, n2.fm.ft, rd, re, es, Fin.prim n2.fm q5⟩
theorem sm_neg {a : Expr} {pos : Pos} {ma : M Opd} (ha : PE X a (mO X W ma)) :
    PE X (.UnaryOp .USub a pos) (mV X W (bnd ma fun x => bnd (rdO x) fun d => match d with
    | .int i => ret (.val (.int (-i)))
    | _ => bad)) := by
  refine PE_imp (pe_un un_neg ha) fun σ H Q ⟨F, fr, f, q⟩ => ⟨F, fr, f, Fin.bnd f ante_From _ _ q fun x v H1 F1 fr1 n1 r1 g1 q1 => ?_⟩
  obtain ⟨d, rd, q3⟩ := Fin.rdO n1.fm r1 q1
  cases d with
  | int i => obtain rfl := rb_int rd; exact ⟨i, rfl, Prim.val n1.fm.ft (Fin.prim n1.fm q3) (.int _)⟩
  | _ => exact q3.elim
abbrev cmpM (ma mb : M Opd) (o : Cm) : M Bool := bnd ma fun x => bnd mb fun y => bnd (rdO x) fun d => bnd (rdO y) fun e => opt (cmpop o d e)
theorem sm_cmpT {a b : Expr} {pos : Pos} {ma mb : M Opd} {o : Cm} (hu : X.A.units + 65 < cLine) (ha : PE X a (mO X W ma)) (hb : PE X b (mO X W mb)) (hm : behindInMarks (pyCm o) b = false) :
    PT X (.Compare a [pyCm o] [b] pos) (mT X W (cmpM ma mb o)) := by
  refine PT_imp (pt_cmpR (op_cmp hu o) ha hb hm) fun σ H Q ⟨F, fr, f, q⟩ => ⟨F, fr, f, Fin.bnd f ante_T _ _ q fun x v H1 F1 fr1 n1 r1 g1 q1 => ⟨F1, fr1, n1.fm, Fin.bnd n1.fm ante_T _ _ q1 fun y w H2 F2 fr2 n2 r2 g2 q2 => ?_⟩⟩
  obtain ⟨d, rd, q3⟩ := Fin.rdO n2.fm (n2.ro n1.fm r1) q2
  obtain ⟨e, re, q4⟩ := Fin.rdO n2.fm r2 q3
  obtain ⟨s, es, q5⟩ := Fin.opt1 q4
  exact ⟨F2, d, e, s, n2.fm.ft, rd, re, es, s, rfl, Fin.done n2.fm q5 rfl trivial⟩
/-- a test's answer as a value -/
theorem Fin.asVal {m : M Bool} {σ : Sg} {H : Hp} {F : FS} {fr : Fr} {Q : VK} (f : Fm X.K H F fr σ) (h : Fin X.K X.mg W (RS X.K) From σ H F fr (MP.bnd m (fun b => MP.ret (.val (.bl b))) fr) Q) :
    Fin X.K X.mg W RT GT σ H F fr (m fr) fun b H1 => Q (.bl b) H1 := by
  unfold MP.bnd at h
  cases q : m fr with
  | bad => rw [q] at h; exact h
  | ex x fr1 => rw [q] at h; exact h
  | ok b fr1 =>
    rw [q] at h
    intro r H' F' n hr _
    have e : b = r := hr
    subst e
    exact h (.bl b) H' F' n (.bl b) fun ds a e => by cases e
theorem sm_cmp {a b : Expr} {pos : Pos} {ma mb : M Opd} {o : Cm} (hu : X.A.units + 65 < cLine) (ha : PE X a (mO X W ma)) (hb : PE X b (mO X W mb)) (hm : behindInMarks (pyCm o) b = false) :
    PE X (.Compare a [pyCm o] [b] pos) (mV X W (bnd (cmpM ma mb o) fun b => ret (.val (.bl b)))) := by
  refine PE_imp (pe_cmpR (op_cmp hu o) ha hb hm) fun σ H Q ⟨F, fr, f, q⟩ => ⟨F, fr, f, Fin.bnd f ante_T _ _ (Fin.asVal f q) fun x v H1 F1 fr1 n1 r1 g1 q1 => ⟨F1, fr1, n1.fm, Fin.bnd n1.fm ante_T _ _ q1 fun y w H2 F2 fr2 n2 r2 g2 q2 => ?_⟩⟩
  obtain ⟨d, rd, q3⟩ := Fin.rdO n2.fm (n2.ro n1.fm r1) q2
  obtain ⟨e, re, q4⟩ := Fin.rdO n2.fm r2 q3
  obtain ⟨s, es, q5⟩ := Fin.opt1 q4
  exact ⟨F2, d, e, s, n2.fm.ft, rd, re, es, Fin.done (R := RT) (G := GT) (Q := fun b H1 => Q (.bl b) H1) n2.fm q5 rfl trivial⟩
abbrev cmpM2 (ma mb mc : M Opd) (o p : Cm) : M Bool := bnd ma fun x => bnd mb fun y => bnd (rdO x) fun d => bnd (rdO y) fun e => bnd (opt (cmpop o d e)) fun r =>
      if r then bnd mc fun z => bnd (rdO y) fun e => bnd (rdO z) fun f => opt (cmpop p e f) else ret false
theorem sm_chain_core {a b c : Expr} {pos : Pos} {ma mb mc : M Opd} {o p : Cm} {σ : Sg} {H : Hp} {F : FS} {fr : Fr} {Q : Bool → Hp → Prop} (f : Fm X.K H F fr σ)
    (q : Fin X.K X.mg W RT GT σ H F fr (cmpM2 ma mb mc o p fr) Q) : tChain (rCmp X.K o) (rCmp X.K p) (mO X W ma) (mO X W mb) (mO X W mc) σ H fun v H' => ∃ k, v = .bl k ∧ Q k H' := by
  refine ⟨F, fr, f, Fin.bnd f ante_T _ _ q fun x v H1 F1 fr1 n1 r1 g1 q1 => ⟨F1, fr1, n1.fm, Fin.bnd n1.fm ante_T _ _ q1 fun y w H2 F2 fr2 n2 r2 g2 q2 => ?_⟩⟩
  obtain ⟨d, rd, q3⟩ := Fin.rdO n2.fm (n2.ro n1.fm r1) q2
  obtain ⟨e, re, q4⟩ := Fin.rdO n2.fm r2 q3
  obtain ⟨s, es, q5⟩ := Fin.opt q4
  refine ⟨F2, d, e, s, n2.fm.ft, rd, re, es, s, rfl, ?_⟩
  cases s with
  | false => exact ⟨false, rfl, Fin.done n2.fm q5 rfl trivial⟩
  | true =>
    refine ⟨F2, fr2, n2.fm, Fin.bnd n2.fm ante_T _ _ q5 fun z u H3 F3 fr3 n3 r3 g3 q6 => ?_⟩
    obtain ⟨e2, re2, q7⟩ := Fin.rdO n3.fm (n3.ro n2.fm r2) q6
    obtain ⟨e3, re3, q8⟩ := Fin.rdO n3.fm r3 q7
    obtain ⟨s2, es2, q9⟩ := Fin.opt1 q8
    exact ⟨F3, e2, e3, s2, n3.fm.ft, re2, re3, es2, s2, rfl, Fin.done n3.fm q9 rfl trivial⟩
theorem sm_chainT {a b c : Expr} {pos : Pos} {ma mb mc : M Opd} {o p : Cm} (hu : X.A.units + 65 < cLine) (ha : PE X a (mO X W ma)) (hb : PE X b (mO X W mb)) (hc : PE X c (mO X W mc)) (hm : lastMarks [pyCm o, pyCm p] [b, c] = false) :
    PT X (.Compare a [pyCm o, pyCm p] [b, c] pos) (mT X W (cmpM2 ma mb mc o p)) :=
  PT_imp (pt_chain (op_cmp hu o) (op_cmp hu p) ha hb hc hm) fun σ H Q ⟨F, fr, f, q⟩ => sm_chain_core (a := a) (b := b) (c := c) (pos := pos) f q
theorem sm_chain {a b c : Expr} {pos : Pos} {ma mb mc : M Opd} {o p : Cm} (hu : X.A.units + 65 < cLine) (ha : PE X a (mO X W ma)) (hb : PE X b (mO X W mb)) (hc : PE X c (mO X W mc)) (hm : lastMarks [pyCm o, pyCm p] [b, c] = false) :
    PE X (.Compare a [pyCm o, pyCm p] [b, c] pos) (mV X W (bnd (cmpM2 ma mb mc o p) fun b => ret (.val (.bl b)))) := by
  have h : PE X (.Compare a [pyCm o, pyCm p] [b, c] pos) fun σ H Q => tChain (rCmp X.K o) (rCmp X.K p) (mO X W ma) (mO X W mb) (mO X W mc) σ H fun v H' => ∃ k, v = .bl k ∧ Q (.bl k) H' := by
    refine ⟨fun pins s σ H Q I q => ?_⟩
    refine thn ((pe_chain (op_cmp hu o) (op_cmp hu p) ha hb hc hm).run pins s σ H _ I q) ?_
    rintro u s' ⟨v, H', I', r, k, rfl, q⟩
    exact ⟨_, H', I', r, q⟩
  exact PE_imp h fun σ H Q ⟨F, fr, f, q⟩ => sm_chain_core (a := a) (b := b) (c := c) (pos := pos) f (Fin.asVal f q)
/-- truth -/
theorem sm_truth {e : Expr} {m : M Slot} (h : PE X e (mV X W m)) (he : ∀ whole, isTrue e X.env whole = (do let v ← whole; standAt e.pos; holding [v] (truthy v))) : PT X e (mT X W (bnd m tru)) := by
  refine PT_imp (pt_truth h he) fun σ H Q ⟨F, fr, f, q⟩ => ⟨F, fr, f, Fin.bnd f ante_T _ _ q fun s v H1 F1 fr1 n1 r1 g1 q1 => ?_⟩
  unfold tru at q1
  obtain ⟨b, eb, q2⟩ := Fin.opt1 q1
  cases z : s.d? with
  | none => rw [z] at eb; cases eb
  | some d =>
    rw [z] at eb
    exact ⟨b, tru_rb (r1.rb z) eb, Fin.done n1.fm q2 rfl trivial⟩
theorem sm_truthV {e : Expr} {i : Nat} (h : PE X e (tVar i)) (he : ∀ whole, isTrue e X.env whole = (do let v ← whole; standAt e.pos; holding [v] (truthy v))) : PT X e (mT X W fun fr => opt ((fr.sl i).d?.bind truth) fr) := by
  refine PT_imp (pt_truth h he) fun σ H Q ⟨F, fr, f, q⟩ => ?_
  obtain ⟨b, eb, q2⟩ := Fin.opt1 q
  cases z : (fr.sl i).d? with
  | none => rw [z] at eb; cases eb
  | some d =>
    rw [z] at eb
    obtain ⟨F', v, ev, _, _⟩ := f.cap z
    exact ⟨v, sv_some ev, b, tru_rb (f.rb ev z) eb, Fin.done f q2 rfl trivial⟩
theorem sm_notT {a : Expr} {pos : Pos} {t : M Bool} (h : PT X a (mT X W t)) : PT X (.UnaryOp .Not a pos) (mT X W (bnd t fun b => ret (!b))) :=
  PT_imp (pt_not h) fun σ H Q ⟨F, fr, f, q⟩ => ⟨F, fr, f, Fin.bnd f ante_T _ _ q fun b c H1 F1 fr1 n1 r1 g1 q1 => by
    have e : b = c := r1
    subst e
    exact Fin.done n1.fm q1 rfl trivial⟩
theorem isB_ok {s : Slot} {v : V} {σ : Sg} {H : Hp} {F : FS} {fr : Fr} {α ρ : Type} {R : Rl α ρ} {G : Gn α ρ} {k : Bool → M α} {Q : ρ → Hp → Prop} (r : RS X.K σ H F fr s v) (h : Fin X.K X.mg W R G σ H F fr (bnd (isB s) k fr) Q) :
    ∃ b, v = .bl b ∧ Fin X.K X.mg W R G σ H F fr (k b fr) Q := by
  cases s with
  | val d =>
    cases d with
    | bl b => cases r; exact ⟨b, rfl, h⟩
    | _ => exact h.elim
  | _ => exact h.elim
theorem sm_not {a : Expr} {pos : Pos} {m : M Slot} (h : PE X a (mV X W m)) : PE X (.UnaryOp .Not a pos) (mV X W (bnd m fun s => bnd (isB s) fun b => ret (.val (.bl (!b))))) :=
  PE_imp (pe_not h) fun σ H Q ⟨F, fr, f, q⟩ => ⟨F, fr, f, Fin.bnd f ante_From _ _ q fun s v H1 F1 fr1 n1 r1 g1 q1 => by
    obtain ⟨b, rfl, q2⟩ := isB_ok r1 q1
    exact ⟨b, rfl, Prim.val n1.fm.ft (Fin.prim n1.fm q2) (.bl _)⟩⟩
theorem sm_and {a b : Expr} {r : List Expr} {pos : Pos} {ma mb : M Slot} (ha : PE X a (mV X W ma)) (hb : PE X (.BoolOp .And (b :: r) pos) (mV X W mb)) :
    PE X (.BoolOp .And (a :: b :: r) pos) (mV X W (bnd ma fun s => bnd (isB s) fun c => if c then mb else ret (.val (.bl false)))) :=
  PE_imp (pe_and ha hb) fun σ H Q ⟨F, fr, f, q⟩ => ⟨F, fr, f, Fin.bnd f ante_From _ _ q fun s v H1 F1 fr1 n1 r1 g1 q1 => by
    obtain ⟨c, rfl, q2⟩ := isB_ok r1 q1
    refine ⟨c, rfl, ?_⟩
    cases c with
    | true => exact ⟨F1, fr1, n1.fm, q2⟩
    | false => exact Prim.val n1.fm.ft (Fin.prim n1.fm q2) (.bl _)⟩
theorem sm_or {a b : Expr} {r : List Expr} {pos : Pos} {ma mb : M Slot} (ha : PE X a (mV X W ma)) (hb : PE X (.BoolOp .Or (b :: r) pos) (mV X W mb)) :
    PE X (.BoolOp .Or (a :: b :: r) pos) (mV X W (bnd ma fun s => bnd (isB s) fun c => if c then ret (.val (.bl true)) else mb)) :=
  PE_imp (pe_or ha hb) fun σ H Q ⟨F, fr, f, q⟩ => ⟨F, fr, f, Fin.bnd f ante_From _ _ q fun s v H1 F1 fr1 n1 r1 g1 q1 => by
    obtain ⟨c, rfl, q2⟩ := isB_ok r1 q1
    refine ⟨c, rfl, ?_⟩
    cases c with
    | false => exact ⟨F1, fr1, n1.fm, q2⟩
    | true => exact Prim.val n1.fm.ft (Fin.prim n1.fm q2) (.bl _)⟩
theorem sm_andT {a b : Expr} {r : List Expr} {pos : Pos} {ma mb : M Bool} (ha : PT X a (mT X W ma)) (hb : PW X (.BoolOp .And (b :: r) pos) (mT X W mb)) :
    PW X (.BoolOp .And (a :: b :: r) pos) (mT X W (bnd ma fun c => if c then mb else ret false)) :=
  PW_imp (pw_and ha hb) fun σ H Q ⟨F, fr, f, q⟩ => ⟨F, fr, f, Fin.bnd f ante_T _ _ q fun b c H1 F1 fr1 n1 r1 g1 q1 => by
    have e : b = c := r1
    subst e
    cases b with
    | true => exact ⟨F1, fr1, n1.fm, q1⟩
    | false => exact Fin.done n1.fm q1 rfl trivial⟩
theorem sm_orT {a b : Expr} {r : List Expr} {pos : Pos} {ma mb : M Bool} (ha : PT X a (mT X W ma)) (hb : PW X (.BoolOp .Or (b :: r) pos) (mT X W mb)) :
    PW X (.BoolOp .Or (a :: b :: r) pos) (mT X W (bnd ma fun c => if c then ret true else mb)) :=
  PW_imp (pw_or ha hb) fun σ H Q ⟨F, fr, f, q⟩ => ⟨F, fr, f, Fin.bnd f ante_T _ _ q fun b c H1 F1 fr1 n1 r1 g1 q1 => by
    have e : b = c := r1
    subst e
    cases b with
    | false => exact ⟨F1, fr1, n1.fm, q1⟩
    | true => exact Fin.done n1.fm q1 rfl trivial⟩
theorem sm_ite {c a b : Expr} {pos : Pos} {t : M Bool} {ma mb : M Slot} (hc : PT X c (mT X W t)) (ha : PE X a (mV X W ma)) (hb : PE X b (mV X W mb)) :
    PE X (.IfExp c a b pos) (mV X W (bnd t fun r => if r then ma else mb)) :=
  PE_imp (pe_ifExp hc ha hb) fun σ H Q ⟨F, fr, f, q⟩ => ⟨F, fr, f, Fin.bnd f ante_From _ _ q fun b c H1 F1 fr1 n1 r1 g1 q1 => by
    have e : b = c := r1
    subst e
    cases b with
    | false => exact ⟨F1, fr1, n1.fm, q1⟩
    | true => exact ⟨F1, fr1, n1.fm, q1⟩⟩
theorem sm_ix {a b : Expr} {pos : Pos} {ma mb : M Opd} (hu : X.A.units + 65 < cLine) (ha : PE X a (mO X W ma)) (hb : PE X b (mO X W mb)) (hs : PlainIx b) :
    PE X (.Subscript a b pos) (mV X W (bnd ma fun x => bnd mb fun y => bnd (rdO x) fun d => bnd (rdO y) fun e => opt (index d e))) := by
  refine PE_imp (pe_ix (ix_idx hu) ha hb hs) fun σ H Q ⟨F, fr, f, q⟩ => ⟨F, fr, f, Fin.bnd f ante_From _ _ q fun x v H1 F1 fr1 n1 r1 g1 q1 => ⟨F1, fr1, n1.fm, Fin.bnd n1.fm ante_From _ _ q1 fun y w H2 F2 fr2 n2 r2 g2 q2 => ?_⟩⟩
  obtain ⟨d, rd, q3⟩ := Fin.rdO n2.fm (n2.ro n1.fm r1) q2
  obtain ⟨e, re, q4⟩ := Fin.rdO n2.fm r2 q3
  obtain ⟨s, es, q5⟩ := Fin.opt1 q4
  exact ⟨F2, d, e, s, n2.fm.ft, rd, re, es, Fin.prim n2.fm q5⟩
theorem sm_kix {x : Str} {b : Expr} {p pos : Pos} {mb : M Opd} {a : Addr} {kvs : List (Str × D)} (hg : Gl X x) (hm : X.mg x = some (.ref a)) (hd : (x == ("__debug__" : Str)) = false) (hb : PE X b (mO X W mb)) (hs : PlainIx b)
    (hk : ∀ z d, look kvs z = some d → ∃ v, KDct X.K X.w a z v ∧ ∀ H F, Rep X.K H F v d) :
    PE X (.Subscript (.Name x p) b pos) (mV X W (bnd mb fun y => bnd (rdO y) fun d => opt (kixD (some kvs) d))) := by
  refine PE_imp (pe_ix (ix_kdict) (pe_glob (pos := p) (v := .ref a) hg hm rfl hd) hb hs) fun σ H Q ⟨F, fr, f, q⟩ => ⟨F, fr, f, Fin.bnd f ante_From _ _ q fun y w H2 F2 fr2 n2 r2 g2 q2 => ?_⟩
  obtain ⟨d, rd, q3⟩ := Fin.rdO n2.fm r2 q2
  obtain ⟨s, es, q5⟩ := Fin.opt1 q3
  cases d with
  | str z =>
    have es : (look kvs z).map Slot.val = some s := es
    cases e : look kvs z with
    | none => rw [e] at es; cases es
    | some d =>
      rw [e] at es
      cases es
      obtain ⟨v, kd, rv⟩ := hk z d e
      have ew : w = .str z := by
        rcases rd with r | ⟨_, _, _, _, e2, _⟩
        · cases r; rfl
        · cases e2
      exact ⟨a, z, v, rfl, ew, kd, Prim.val n2.fm.ft (Fin.prim n2.fm q5) (rv _ _)⟩
  | _ => cases es
/-- a slice's parts -/
abbrev mP (X : Cx) (W : WX) (m : M (Option Int)) : TO := Sm X.K X.mg W (fun _ _ _ _ a b => a = b) GT m
theorem sm_part {e : Expr} {m : M D} (h : PE X e (mD X W m)) : PO X (some e) (mP X W (part [m])) := by
  refine ⟨fun pins s σ H Q I ⟨F, fr, f, q⟩ => (po_some h).run pins s σ H Q I ⟨F, fr, f, Fin.bnd f ante_T _ _ q fun d v H1 F1 fr1 n1 r1 g1 q1 => ?_⟩⟩
  cases d with
  | int i => cases r1; exact ⟨i, rfl, Fin.done n1.fm q1 rfl trivial⟩
  | _ => exact q1.elim
theorem sm_nopart : PO X none (mP X W (part [])) := ⟨fun pins s σ H Q I ⟨F, fr, f, q⟩ => po_none.run pins s σ H Q I (Fin.done f q rfl trivial)⟩
theorem sm_sl {e : Expr} {lo hi : Option Expr} {p2 pos : Pos} {ma : M Opd} {ml mh : M (Option Int)} (ha : PE X e (mO X W ma)) (hl : PO X lo (mP X W ml)) (hh : PO X hi (mP X W mh)) :
    PE X (.Subscript e (.Slice lo hi none p2) pos) (mV X W (bnd ma fun x => bnd ml fun l => bnd mh fun h => bnd (rdO x) fun d => opt (slice d l h))) := by
  refine PE_imp (pe_slice sl_sli ha hl hh) fun σ H Q ⟨F, fr, f, q⟩ => ⟨F, fr, f, Fin.bnd f ante_From _ _ q fun x v H1 F1 fr1 n1 r1 g1 q1 => ⟨F1, fr1, n1.fm, Fin.bnd n1.fm ante_From _ _ q1 fun l l' H2 F2 fr2 n2 r2 g2 q2 => ⟨F2, fr2, n2.fm, Fin.bnd n2.fm ante_From _ _ q2 fun h h' H3 F3 fr3 n3 r3 g3 q3 => ?_⟩⟩⟩
  have e1 : l = l' := r2
  have e2 : h = h' := r3
  subst e1 e2
  obtain ⟨d, rd, q4⟩ := Fin.rdO n3.fm (n3.ro n2.fm (n2.ro n1.fm r1)) q3
  obtain ⟨s, es, q5⟩ := Fin.opt1 q4
  exact ⟨F3, d, s, n3.fm.ft, rd, es, Fin.prim n3.fm q5⟩
/-! lists of parts -/
theorem sm_vals_nil : PA X [] (mDs X W (vals [])) := PA_imp pa_nil fun σ H Q ⟨F, fr, f, q⟩ => Fin.done f q .nil trivial
theorem sm_vals_cons {e : Expr} {es : List Expr} {x : Ev} {xs : List Ev} (h : PE X e (mV X W x.v)) (hr : PA X es (mDs X W (vals xs))) (hs : starEach (e :: es) X.env = (false, eval e X.env) :: starEach es X.env) :
    PA X (e :: es) (mDs X W (vals (x :: xs))) :=
  PA_imp (pa_cons (sm_fz h) hr hs) fun σ H Q ⟨F, fr, f, q⟩ => ⟨F, fr, f, Fin.bnd f ante_T _ _ q fun d v H1 F1 fr1 n1 r1 g1 q1 => ⟨F1, fr1, n1.fm, Fin.bnd n1.fm ante_T _ _ q1 fun ds vs H2 F2 fr2 n2 r2 g2 q2 =>
    Fin.done n2.fm q2 (Reps.cons (n2.rep n1.fm r1) r2) trivial⟩⟩
theorem sm_opds_nil : PA X [] (mOs X W (opds [])) := PA_imp pa_nil fun σ H Q ⟨F, fr, f, q⟩ => Fin.done f q Paired.nil Paired.nil
theorem Paired.imp2 {α β : Type} {P Q : α → β → Prop} {l₁ : List α} {l₂ : List β} (h : Paired P l₁ l₂) (i : ∀ a b, P a b → Q a b) : Paired Q l₁ l₂ := L2.Paired.mapP h i
theorem sm_opds_cons {e : Expr} {es : List Expr} {x : Ev} {xs : List Ev} (h : PE X e (mO X W x.o)) (hr : PA X es (mOs X W (opds xs))) (hs : starEach (e :: es) X.env = (false, eval e X.env) :: starEach es X.env) :
    PA X (e :: es) (mOs X W (opds (x :: xs))) :=
  PA_imp (pa_cons h hr hs) fun σ H Q ⟨F, fr, f, q⟩ => ⟨F, fr, f, Fin.bnd' f (.refl f) _ _ q fun o v H1 F1 fr1 n1 r1 g1 q1 => ⟨F1, fr1, n1.fm, Fin.bnd' f n1 _ _ q1 fun os vs H2 F2 fr2 n2 r2 g2 q2 =>
    q2 _ H2 F2 (n1.trans f n2) (Paired.cons (n2.ro n1.fm r1) r2) (Paired.cons g1 (ante_FromOs.ok n1 g2))⟩⟩
end
end MP

/-! MP: xs[::-1] of a list or a tuple. -/
namespace MP
open PySem PySem.Spec PyProof.Rows L2
section
variable {prog : Program} {w : World} {A : Around} {E : Value → Shared → Prop} {s : Shared}
theorem rt_places (n : Nat) : Builtin.Slice.slicePlaces ((n : Int) - 1) (-1) (-1) = n := by
  unfold Builtin.Slice.slicePlaces
  rw [if_neg (show ¬ (-1 : Int) > 0 by omega), show (- -1 : Int) = 1 by omega, Int.ediv_one]
  by_cases g : (n : Int) - 1 > -1
  · rw [if_pos g]; omega
  · rw [if_neg g]; omega
theorem rt_adjust (n : Nat) : Builtin.Slice.sliceAdjust none none (-1) (n : Int) = ((n : Int) - 1, -1) := rfl
theorem rt_applied {c : Addr} {va vb vc : Value} {n : Nat} {R : Int × Int × Nat → Shared → Prop} (hs : s.heap.IsSliceOf c va vb vc) (pa : IsPart va none) (pb : IsPart vb none) (pc : IsPart vc (some (-1))) (h : R ((n : Int) - 1, -1, n) s) :
    wpAny (model prog w) A (Builtin.Slice.sliceApplied (.ref c) (pure (n : Int))) R E s := by
  obtain ⟨oc, goc, gcls, gdat⟩ := hs
  unfold Builtin.Slice.sliceApplied Builtin.Slice.sliceFields
  have last : wpAny (model prog w) A (pure (((n : Int) - 1, (-1 : Int), Builtin.Slice.slicePlaces ((n : Int) - 1) (-1) (-1)) : Int × Int × Nat)) R E s := by rw [rt_places]; exact wpAny_pure h
  refine wpAny_bind (wpAny_bind (wpAny_field goc gdat (x := va) rfl (wpAny_bind (wpAny_field goc gdat (x := vb) rfl (wpAny_bind (wpAny_field goc gdat (x := vc) rfl (wpAny_pure ?_)))))))
  refine wpAny_bind (HT.slicePart_ pc ?_)
  show wpAny (model prog w) A (if ((-1 : Int) == 0) = true then _ else _) R E s
  rw [if_neg (show ¬ (((-1 : Int) == 0) = true) by decide)]
  exact wpAny_bind (HT.slicePart_ pa (wpAny_bind (HT.slicePart_ pb (wpAny_bind (wpAny_pure last)))))
theorem rt_pick (xs : Array Value) : (List.range xs.size).filterMap (fun (m : Nat) => xs[(((xs.size : Nat) : Int) - 1 + (m : Int) * (-1)).toNat]?) = xs.toList.reverse := by
  have e1 : (List.range xs.size).filterMap (fun (m : Nat) => xs[(((xs.size : Nat) : Int) - 1 + (m : Int) * (-1)).toNat]?) = ((List.range xs.size).map fun k => xs.size - 1 - k).filterMap (xs[·]?) := by
    rw [List.filterMap_map]
    congr 1
    funext m
    show _ = xs[xs.size - 1 - m]?
    congr 1; omega
  rw [e1, PySem.W.krv_range, List.filterMap_reverse, PySem.W.krv_all]
theorem rt_get {t c : Addr} {xs : Array Value} {va vb vc : Value} {R : Value → Shared → Prop} (ht : PyProof.Rows.IsTup s.heap t xs) (hs : s.heap.IsSliceOf c va vb vc) (pa : IsPart va none) (pb : IsPart vb none) (pc : IsPart vc (some (-1))) (hz : xs.size ≤ sizeLine)
    (h : R (.ref s.heap.objs.size) { s with heap := s.heap.push { cls := .type "tuple", data := .seq xs.toList.reverse.toArray } }) : wpAny (model prog w) A (getItem (.ref t) (.ref c)) R E s := by
  have big : sizeOk (.seq xs.toList.reverse.toArray) := by
    show xs.toList.reverse.toArray.size ≤ sizeLine
    simpa using hz
  have isS : s.TypeIs (.ref c) "slice" := by obtain ⟨oc, goc, gcls, _⟩ := id hs; exact ⟨oc, goc, gcls⟩
  unfold getItem
  try with_reducible refine wpAny_holding ?_
  try refine wpAny_bind (wpAny_pure ?_)
  refine wpAny_bind (wpAny_sequenceKey ht.typeIs (by decide) (wpAny_bind (wpAny_callSpecial?_slot (name := Str.ofString "__getitem__") ht.typeIs PyProof.Rows.slot_tuple_getitem (wpAny_call_entry PyProof.Rows.slot_tuple_getitem ht.typeIs entry_tuple_getitem ?_ (args_tuple_getitem _ _)))))
  refine wpAny_bind (m := Builtin.Tuple.tupleItemsOf (.ref t)) (PyProof.Rows.tupleItemsOf_ ht (wpAny_bind (wpAny_typeOf isS ?_)))
  rw [if_pos (show (Value.type "slice" == Value.type "slice") = true by decide)]
  refine wpAny_bind (rt_applied hs pa pb pc ?_)
  have no : ¬ ((((xs.size : Nat) : Int) - 1 == 0 && (-1 : Int) == 1 && xs.size == xs.size) = true) := by simp
  show wpAny (model prog w) _ (if (((xs.size : Nat) : Int) - 1 == 0 && (-1 : Int) == 1 && xs.size == xs.size) = true then _ else _) _ _ s
  rw [if_neg no, rt_pick]
  first
    | exact wpAny_bind (m := Builtin.Tuple.tupleExact _) (wpAny_newObj_type (wpAny_pure ⟨_, rfl, wpAny_pure h⟩) big)
    | exact wpAny_bind (m := Builtin.Tuple.tupleExact _) (wpAny_newObj_type (wpAny_bind (wpAny_pure (wpAny_pure ⟨_, rfl, wpAny_pure h⟩))) big)
    | exact wpAny_bind (wpAny_bind (m := Builtin.Tuple.tupleExact _) (wpAny_newObj_type (wpAny_pure (wpAny_pure ⟨_, rfl, wpAny_pure h⟩)) big))
    | exact wpAny_bind (wpAny_bind (m := Builtin.Tuple.tupleExact _) (wpAny_newObj_type (wpAny_pure ⟨_, rfl, wpAny_pure h⟩) big))
end
def tRevA (K : PySem.W.Frag) (te : TE) : TE := fun σ H Q => te σ H fun x H1 => ∃ a xs, x = .ref a ∧ ((SqL K H1 a xs ∧ ∀ p, H1 p = none → Q (.ref p) (upd H1 p (.lst xs.reverse))) ∨ (SqT K H1 a xs ∧ ∀ p, H1 p = none → Q (.ref p) (upd H1 p (.tup xs.reverse))))
section
variable {X : Cx}
theorem pe_revA {e : Expr} {te : TE} {k : Nat} {p1 p2 p3 pos : Pos} (he : PE X e te) : PE X (.Subscript e (.Slice none none (some (.UnaryOp .USub (.Constant (.int 1) k p1) p2)) p3) pos) (tRevA X.K te) := by
  have hp : PO X (some (.UnaryOp .USub (.Constant (.int 1) k p1) p2)) (tPart (tUn (rU fun i => .int (-i)) (tC (.int 1)))) := po_some (pe_un un_neg pe_int)
  constructor
  intro pins s σ H Q I h
  refine Subscript_ (thn (he.run pins s σ H _ I h) fun v s1 got => ?_)
  obtain ⟨x, H1, I1, r1, a, xs, rfl, q⟩ := got
  cases r1
  refine wpAny_Slice (thn (po_none.run pins s1 σ H1 (fun o G => o = none ∧ G = H1) I1 ⟨rfl, rfl⟩) fun va s2 ga => ?_)
  obtain ⟨oa, G2, I2, pa, rfl, rfl⟩ := ga
  refine thn (po_none.run pins s2 σ G2 (fun o G => o = none ∧ G = G2) I2 ⟨rfl, rfl⟩) fun vb s3 gb => ?_
  obtain ⟨ob, G3, I3, pb, rfl, rfl⟩ := gb
  refine thn (hp.run pins s3 σ G3 (fun o G => o = some (-1) ∧ G = G3) I3 ⟨1, rfl, -1, rfl, rfl, rfl⟩) fun vc s4 gc => ?_
  obtain ⟨oc, G4, I4, pc, rfl, rfl⟩ := gc
  have J : Inv X pins σ G4 { s4 with heap := s4.heap.push { cls := .type "slice", data := .fields #[va, vb, vc] } } := I4.kept (t' := s4.toks) fun b o z => Heap.get?_push_of_some _ z
  show wpAny (model X.prog X.w) X.A (subscriptTail e (.Slice none none (some (.UnaryOp .USub (.Constant (.int 1) k p1) p2)) p3) (.ref a) (.ref s4.heap.objs.size)) (EP X pins σ Q) X.xe _
  rcases q with ⟨hx, q⟩ | ⟨hx, q⟩
  · obtain ⟨its, r, hl, hz⟩ := J.list hx
    have hn := r.length
    refine tail_any (ops := [.ref a, .ref s4.heap.objs.size]) hl.isList.typeIs PySem.slot_list_getitem.lookup (wpAny_getItem_list_slice hl.isList (Heap.IsSliceOf.new _ va vb vc) pa pb pc (by decide) ?_ (by rw [List.size_toArray]; omega)) (by with_unfolding_all rfl)
    rw [PySem.W.krv_pick]
    exact ⟨.ref _, _, J.laid (t' := s4.toks) (o := .lst xs.reverse) (fun b o z => Heap.get?_push_of_some _ z) (Nat.le_refl _) ⟨by rw [List.length_reverse]; exact hz, _, 0, r.reverse, Heap.get?_push_size _ rfl⟩, rfl, q _ (J.hok.fresh (Nat.le_refl _))⟩
  · obtain ⟨its, r, hl, hz⟩ := J.tuple hx
    have hn := r.length
    refine tail_any (ops := [.ref a, .ref s4.heap.objs.size]) hl.typeIs PyProof.Rows.slot_tuple_getitem.lookup (rt_get hl (Heap.IsSliceOf.new _ va vb vc) pa pb pc (by rw [List.size_toArray]; omega) ?_) (by with_unfolding_all rfl)
    exact ⟨.ref _, _, J.laid (t' := s4.toks) (o := .tup xs.reverse) (fun b o z => Heap.get?_push_of_some _ z) (Nat.le_refl _) ⟨by rw [List.length_reverse]; exact hz, its.reverse, r.reverse, ⟨_, Heap.get?_push_size _ rfl, rfl, _, rfl⟩⟩, rfl, q _ (J.hok.fresh (Nat.le_refl _))⟩
end
end MP

/-! MP: displays, built-ins, methods. -/
namespace MP
open PySem PySem.Spec PyProof.Rows L2
section
variable {X : Cx} {W : WX}
theorem sm_tup {es : List Expr} {xs : List Ev} {n : Nat} {pos : Pos} (h : PA X es (mDs X W (vals xs))) :
    PE X (.Tuple es n pos) (mV X W (bnd (vals xs) fun ds => if ds.length ≤ sizeLine then ret (.val (.tup ds)) else bad)) := by
  refine PE_imp (pe_tup h) fun σ H Q ⟨F, fr, f, q⟩ => ⟨F, fr, f, Fin.bnd f ante_From _ _ q fun ds vs H1 F1 fr1 n1 r1 g1 q1 => ?_⟩
  split at q1
  · rename_i hl
    have e := Reps.length r1
    exact ⟨by omega, fun p np => Prim.tup n1.fm.ft (Fin.prim n1.fm q1) r1 np⟩
  · exact q1.elim
theorem sm_lst {es : List Expr} {xs : List Ev} {pos : Pos} (h : PA X es (mDs X W (vals xs))) :
    PE X (.List es pos) (mV X W (bnd (vals xs) fun ds => if ds.length ≤ sizeLine then ret (.own ds) else bad)) := by
  refine PE_imp (pe_lst h) fun σ H Q ⟨F, fr, f, q⟩ => ⟨F, fr, f, Fin.bnd f ante_From _ _ q fun ds vs H1 F1 fr1 n1 r1 g1 q1 => ?_⟩
  split at q1
  · rename_i hl
    have e := Reps.length r1
    exact ⟨by omega, fun p np => Prim.lst n1.fm.ft (Fin.prim n1.fm q1) r1 np⟩
  · exact q1.elim
theorem Fin.rdOs {K : PySem.W.Frag} {mg : Str → Option Value} {α ρ : Type} {R : Rl α ρ} {G : Gn α ρ} {σ : Sg} {H : Hp} {F : FS} {fr : Fr} {Q : ρ → Hp → Prop} (f : Fm K H F fr σ) : ∀ {os : List Opd} {vs : List V} {k : List D → M α}, ROs K σ H F fr os vs →
    Fin K mg W R G σ H F fr (MP.bnd (MP.rdOs os) k fr) Q → ∃ ds, RBs K H F vs ds ∧ Fin K mg W R G σ H F fr (k ds fr) Q
  | [], _, k, .nil, h => ⟨[], .nil, h⟩
  | o :: os, _, k, .cons r t, h => by
    have h2 : Fin K mg W R G σ H F fr (MP.bnd (MP.rdO o) (fun d => MP.bnd (MP.rdOs os) fun ds => k (d :: ds)) fr) Q := by
      have e : MP.bnd (MP.rdOs (o :: os)) k = MP.bnd (MP.rdO o) (fun d => MP.bnd (MP.rdOs os) fun ds => k (d :: ds)) := by
        funext fr
        simp only [MP.rdOs, MP.bnd]
        cases MP.rdO o fr with
        | ok d fr' =>
          show bndO (bndO (MP.rdOs os fr') _) _ = bndO (MP.rdOs os fr') _
          cases MP.rdOs os fr' <;> rfl
        | _ => rfl
      rw [← e]; exact h
    obtain ⟨d, rd, q⟩ := Fin.rdO f r h2
    obtain ⟨ds, rds, q2⟩ := Fin.rdOs f t q
    exact ⟨d :: ds, .cons rd rds, q2⟩
theorem sm_bi (hc : X.calm = true) {x : Str} {e : Expr} {es : List Expr} {xs : List Ev} {p pos : Pos} (b : Bi) (h : PA X (e :: es) (mOs X W (opds xs))) (hg : Gl X x) (hm : X.mg x = none) (hv : bootBuiltins x = some (biId b)) (hn : x ≠ "__name__") (hdb : (x == ("__debug__" : Str)) = false)
    (he : starEach (e :: es) X.env = (false, eval e X.env) :: starEach es X.env) (hpl : (backTo pos (starEach es X.env)).any (·.1) = false) :
    PE X (.Call (.Name x p) (e :: es) [] pos) (mV X W (bnd (opds xs) fun os => bnd (rdOs os) fun ds => opt (bi b ds))) := by
  have main : ∀ (σ : Sg) (H : Hp) (Q : VK), (mV X W (bnd (opds xs) fun os => bnd (rdOs os) fun ds => opt (bi b ds))) σ H Q → tCB (rBi X.K b) (mOs X W (opds xs)) σ H Q := by
    rintro σ H Q ⟨F, fr, f, q⟩
    refine ⟨F, fr, f, Fin.bnd f ante_From _ _ q fun os vs H1 F1 fr1 n1 r1 g1 q1 => ?_⟩
    obtain ⟨ds, rds, q2⟩ := Fin.rdOs n1.fm r1 q1
    obtain ⟨s, es, q3⟩ := Fin.opt1 q2
    exact ⟨F1, ds, s, n1.fm.ft, rds, es, Fin.prim n1.fm q3⟩
  cases b with
  | len => exact PE_imp (pe_callB (call_bi hc .len) hg hm hv h hn hdb he hpl) main
  | abs => exact PE_imp (pe_callB (call_bi hc .abs) hg hm hv h hn hdb he hpl) main
  | max => exact PE_imp (pe_callB (call_bi hc .max) hg hm hv h hn hdb he hpl) main
  | min => exact PE_imp (pe_callB (call_bi hc .min) hg hm hv h hn hdb he hpl) main
  | sum => exact PE_imp (pe_callB (call_bi hc .sum) hg hm hv h hn hdb he hpl) main
  | any => exact PE_imp (pe_callB (call_bi hc .any) hg hm hv h hn hdb he hpl) main
  | all => exact PE_imp (pe_callB (call_bi hc .all) hg hm hv h hn hdb he hpl) main
  | sorted => exact PE_imp (pe_callB (call_bi hc .sorted) hg hm hv h hn hdb he hpl) main
  | int => exact PE_imp (pe_callTy (call_bi hc .int) hg hm hv h hn hdb he hpl) main
  | str => exact PE_imp (pe_callTy (call_bi hc .str) hg hm hv h hn hdb he hpl) main
  | list => exact PE_imp (pe_callTy (call_bi hc .list) hg hm hv h hn hdb he hpl) main
  | tuple => exact PE_imp (pe_callTy (call_bi hc .tuple) hg hm hv h hn hdb he hpl) main
def rIsiD (K : PySem.W.Frag) (t : Ty) : List V → Hp → VK → Prop := fun xs H Q => ∃ (F : FS) (x : V) (d : D) (b : Bool), xs = [x, .ty (tyN t)] ∧ RB K H F x d ∧ d.isTy t = some b ∧ Q (.bl b) H
theorem call_isiD2 (t : Ty) : CallR X (.builtin "isinstance") (rIsiD X.K t) := by
  intro pins s σ H xs us Q I r h
  obtain ⟨F, x, d, b, rfl, rb, hb, hq⟩ := h
  exact call_isiD t I r rb hb hq
theorem sm_isi {e : Expr} {m : M Opd} {p p2 pos : Pos} (t : Ty) (h : PE X e (mO X W m)) (hg : Gl X "isinstance") (hm : X.mg "isinstance" = none) (hg2 : Gl X (Str.ofString (tyN t))) (hm2 : X.mg (Str.ofString (tyN t)) = none)
    (he : starEach [e, .Name (Str.ofString (tyN t)) p2] X.env = (false, eval e X.env) :: starEach [.Name (Str.ofString (tyN t)) p2] X.env) :
    PE X (.Call (.Name "isinstance" p) [e, .Name (Str.ofString (tyN t)) p2] [] pos) (mV X W (bnd m fun x => bnd (rdO x) fun d => bnd (opt (d.isTy t)) fun b => ret (.val (.bl b)))) := by
  have hT : PE X (.Name (Str.ofString (tyN t)) p2) (tC (.ty (tyN t))) := by
    have hv : bootBuiltins (Str.ofString (tyN t)) = some (.type (tyN t)) := by cases t <;> decide +kernel
    exact pe_bltn hg2 hm2 hv rfl (by cases t <;> decide +kernel) (by cases t <;> decide +kernel)
  refine PE_imp (pe_callB (call_isiD2 t) hg hm boot_isinstance (pa_cons h (pa_cons hT pa_nil) he) (by decide) (by decide) he rfl) fun σ H Q ⟨F, fr, f, q⟩ => ⟨F, fr, f, Fin.bnd f ante_From _ _ q fun x v H1 F1 fr1 n1 r1 g1 q1 => ?_⟩
  obtain ⟨d, rd, q2⟩ := Fin.rdO n1.fm r1 q1
  obtain ⟨b, eb, q3⟩ := Fin.opt q2
  exact ⟨F1, v, d, b, rfl, rd, eb, Prim.val n1.fm.ft (Fin.prim n1.fm q3) (.bl _)⟩
/-! methods that change nothing -/
def mtId : Mt → String
  | .endswith => "str.endswith" | .startswith => "str.startswith" | .split => "str.split" | .join => "str.join" | .index => "list.index" | .get => "dict.get" | .lower => "str.lower"
def mtTy : Mt → String
  | .index => "list" | .get => "dict" | _ => "str"
def mtNm : Mt → String
  | .endswith => "endswith" | .startswith => "startswith" | .split => "split" | .join => "join" | .index => "index" | .get => "get" | .lower => "lower"
def rMt (K : PySem.W.Frag) (m : Mt) : V → List V → Hp → VK → Prop := fun x xs H Q => ∃ F d ds s, FT F H ∧ RB K H F x d ∧ RBs K H F xs ds ∧ mt m d ds = some s ∧ Prim K H F s Q
theorem Reps.strs {K : PySem.W.Frag} {H : Hp} {F : FS} : ∀ {vs : List V} {ds : List D} {ns : List Str}, Reps K H F vs ds → strsOf ds = some ns → vs = ns.map V.str ∧ ds = ns.map D.str
  | _, _, _, .nil, e => by cases e; exact ⟨rfl, rfl⟩
  | _, _, ns, .cons (d := d) (ds := ds) h r, e => by
    cases h with
    | str i =>
      cases q : strsOf ds with
      | none => simp [strsOf, q] at e
      | some ms =>
        simp [strsOf, q] at e
        subst e
        obtain ⟨e1, e2⟩ := Reps.strs r q
        exact ⟨by rw [e1]; rfl, by rw [e2]; rfl⟩
    | _ => simp [strsOf] at e
theorem Reps.ofStrs {K : PySem.W.Frag} {H : Hp} {F : FS} : ∀ ns : List Str, Reps K H F (ns.map V.str) (ns.map D.str)
  | [] => .nil
  | i :: r => .cons (.str i) (Reps.ofStrs r)
theorem findE_ok {d : D} (hd : d.shal = true) : ∀ (xs : List D) (m j : Nat), D.deps xs = some m → findE d xs = some j → ∃ z, (D.pys xs)[j]? = some z ∧ PyData.eqv z d.py = true ∧ ∀ (i : Nat) (z' : PyData), i < j → (D.pys xs)[i]? = some z' → PyData.eqv z' d.py = false
  | [], _, _, _, h => by simp [findE] at h
  | x :: xs, n, j, hn, h => by
    simp only [D.deps] at hn
    cases q1 : D.dep x with
    | none => rw [q1] at hn; cases hn
    | some a =>
      cases q2 : D.deps xs with
      | none => rw [q1, q2] at hn; cases hn
      | some b =>
        obtain ⟨k, hk, _⟩ := shal_ok hd
        have e := py_eqv x d a k q1 hk
        simp only [findE] at h
        by_cases c : D.eqv x d = true
        · rw [if_pos c] at h; cases h
          exact ⟨x.py, by simp [D.pys], by rw [e]; exact c, fun i z' hi => by omega⟩
        · rw [if_neg c] at h
          cases q : findE d xs with
          | none => rw [q] at h; cases h
          | some j' =>
            rw [q] at h; cases h
            obtain ⟨z, h1, h2, h3⟩ := findE_ok hd xs b j' q2 q
            refine ⟨z, by simpa [D.pys] using h1, h2, fun i z' hi hz => ?_⟩
            cases i with
            | zero =>
              simp [D.pys] at hz
              rw [← hz, e]
              simpa using c
            | succ i => exact h3 i z' (by have : i + 1 < j' + 1 := hi; omega) (by simpa [D.pys] using hz)
theorem mt_ok (hu : X.A.units + 65 < cLine) (m : Mt) : MtR X (mtId m) (rMt X.K m) := by
  intro pins s σ H x xs v us Q I rx r h
  obtain ⟨F, d, ds, z, ft, bd, rbb, hc, hp⟩ := h
  unfold mt at hc
  split at hc
  · obtain rfl := rb_str bd
    obtain ⟨y, rfl, rb⟩ := rbs1 rbb
    obtain rfl := rb_str rb
    cases hc
    exact mt_endswith pins s σ H _ _ v us Q I rx r ⟨_, _, rfl, rfl, hp.val ft (.bl _)⟩
  · obtain rfl := rb_str bd
    obtain ⟨y, rfl, rb⟩ := rbs1 rbb
    obtain rfl := rb_str rb
    cases hc
    exact mt_startswith pins s σ H _ _ v us Q I rx r ⟨_, _, rfl, rfl, hp.val ft (.bl _)⟩
  · obtain rfl := rb_str bd
    obtain ⟨y, rfl, rb⟩ := rbs1 rbb
    obtain rfl := rb_str rb
    obtain ⟨c, rfl⟩ := when_some hc
    simp only [Bool.and_eq_true, decide_eq_true_eq] at c
    exact mt_split pins s σ H _ _ v us Q I rx r ⟨_, _, rfl, rfl, c.1, c.2, fun p np => hp.lst ft (Reps.ofStrs _) np⟩
  · rename_i ys
    obtain rfl := rb_str bd
    obtain ⟨y, rfl, rb⟩ := rbs1 rbb
    obtain ⟨a, vs, rfl, ha, q⟩ := rb_lst rb
    cases e1 : strsOf ys with
    | none => rw [e1] at hc; cases hc
    | some ns =>
      rw [e1] at hc
      obtain ⟨c, rfl⟩ := when_some (show when _ _ = some z from hc)
      obtain ⟨rfl, _⟩ := q.strs e1
      exact mt_join pins s σ H _ _ v us Q I rx r ⟨_, a, ns, rfl, rfl, .inl (SqL.of ha), of_decide_eq_true c, hp.val ft (.str _)⟩
  · rename_i ys e
    obtain ⟨y, rfl, rb⟩ := rbs1 rbb
    split at hc
    · rename_i c
      rw [Bool.and_eq_true] at c
      cases e1 : findE e ys with
      | none => rw [e1] at hc; cases hc
      | some j =>
        rw [e1] at hc; cases hc
        obtain ⟨n, hn, s1⟩ := shal_ok c.1
        obtain ⟨m, hm, s2⟩ := shal_ok c.2
        obtain ⟨k, hk⟩ := shals c.1
        obtain ⟨z, h1, h2, h3⟩ := findE_ok c.2 ys k j hk e1
        have q := bd.dp hn
        rw [D.py] at q s1
        obtain ⟨a, vs, rfl, ha, _⟩ := rb_lst bd
        exact mt_indexD hu pins s σ H _ _ v us Q I rx r ⟨a, y, _, _, j, z, rfl, rfl, q, rb.dp hm, s1, s2, h1, h2, h3, hp.val ft (.int _)⟩
    · cases hc
  · rename_i ks vs k
    obtain ⟨y, rfl, rb⟩ := rbs1 rbb
    obtain ⟨a, ws, rfl, hf, ha, hl, qb⟩ := rb_dic bd
    cases e1 : keyOf k with
    | none => rw [e1] at hc; cases hc
    | some k' =>
      rw [e1] at hc; cases hc
      obtain rfl := keyOf_kV rb e1
      cases rx
      obtain ⟨u, rfl, ru⟩ := vals1 r
      refine d_get1 (by omega) I (.k ha) ru fun w' s' I' rw' => ⟨_, H, I', rw', ?_⟩
      have hp : Prim X.K H F (Slot.val ((dlook ks vs k').getD D.non)) Q := hp
      cases e2 : dlook ks vs k' with
      | none =>
        rw [e2] at hp
        rw [(dlook_valV (k := k') hl qb).2 e2]
        exact hp.val ft .non
      | some d' =>
        rw [e2] at hp
        obtain ⟨v', e3, r3⟩ := (dlook_valV (k := k') hl qb).1 d' e2
        rw [e3]
        exact hp.val ft r3
  · cases hc
theorem tyOk_ty {K : PySem.W.Frag} {H : Hp} {F : FS} {x : V} {d : D} {m : Mt} (r : RB K H F x d) (h : m.tyOk d = true) : tyV K (mtTy m) x H := by
  cases m <;> cases d <;> first
    | (cases h; done)
    | (obtain rfl := rb_str r; rfl)
    | (obtain ⟨a, vs, rfl, ha, _⟩ := rb_lst r; exact .inl ⟨rfl, vs, SqL.of ha⟩)
    | (obtain ⟨a, vs, rfl, _, ha, _⟩ := rb_dic r; exact .inr (.inr (.inl ⟨rfl, .inl ⟨_, ha⟩⟩)))
theorem sm_mt {o e : Expr} {es : List Expr} {mo : M Opd} {xs : List Ev} {apos cpos : Pos} (m : Mt) (hm : m ≠ .lower) (hu : X.A.units + 65 < cLine) (ho : PE X o (mO X W mo)) (h : PA X (e :: es) (mOs X W (opds xs)))
    (hbase : attributeBase o (Str.ofString (mtNm m)) X.env (eval o X.env) = eval o X.env)
    (hfew : ((backTo cpos (starEach (e :: es) X.env)).all (fun x => !x.1) && (backToKw cpos (keywordEach [] X.env)).all (fun x => x.1.isSome)
      && decide ((e :: es).length + ([] : List Keyword).length + (if ([] : List Keyword).isEmpty then 0 else 1) < 30)) = true)
    (hline : (apos.endLine == cpos.line) = true) (hs : starEach (e :: es) X.env = (false, eval e X.env) :: starEach es X.env) (hplain : (backTo cpos (starEach es X.env)).any (·.1) = false) :
    PE X (.Call (.Attribute o (Str.ofString (mtNm m)) apos) (e :: es) [] cpos) (mV X W (bnd mo fun x => bnd (rdO x) fun d0 => if m.tyOk d0 then bnd (opds xs) fun os => bnd (rdO x) fun d => bnd (rdOs os) fun ds => opt (mt m d ds) else bad)) := by
  have main : ∀ (σ : Sg) (H : Hp) (Q : VK), (mV X W (bnd mo fun x => bnd (rdO x) fun d0 => if m.tyOk d0 then bnd (opds xs) fun os => bnd (rdO x) fun d => bnd (rdOs os) fun ds => opt (mt m d ds) else bad)) σ H Q → tBM X.K (mtTy m) (rMt X.K m) (mO X W mo) (mOs X W (opds xs)) σ H Q := by
    rintro σ H Q ⟨F, fr, f, q⟩
    refine ⟨F, fr, f, Fin.bnd f ante_From _ _ q fun x v H1 F1 fr1 n1 r1 g1 q1 => ?_⟩
    obtain ⟨d0, rd0, q2⟩ := Fin.rdO n1.fm r1 q1
    split at q2
    · rename_i c
      refine ⟨tyOk_ty rd0 c, F1, fr1, n1.fm, Fin.bnd n1.fm ante_From _ _ q2 fun os vs H2 F2 fr2 n2 r2 g2 q3 => ?_⟩
      obtain ⟨d, rd, q4⟩ := Fin.rdO n2.fm (n2.ro n1.fm r1) q3
      obtain ⟨ds, rds, q5⟩ := Fin.rdOs n2.fm r2 q4
      obtain ⟨s, es, q6⟩ := Fin.opt1 q5
      exact ⟨F2, d, ds, s, n2.fm.ft, rd, rds, es, Fin.prim n2.fm q6⟩
    · exact q2.elim
  cases m with
  | endswith => exact PE_imp (pe_bm PySem.F.plainAttrs_str PySem.F.slot_str_endswith PySem.F.type_str_endswith (mt_ok hu .endswith) ho h hbase hfew hline hs hplain) main
  | startswith => exact PE_imp (pe_bm PySem.F.plainAttrs_str PySem.F.slot_str_startswith PySem.F.type_str_startswith (mt_ok hu .startswith) ho h hbase hfew hline hs hplain) main
  | split => exact PE_imp (pe_bm PySem.F.plainAttrs_str PySem.F.slot_str_split PySem.F.type_str_split (mt_ok hu .split) ho h hbase hfew hline hs hplain) main
  | join => exact PE_imp (pe_bm PySem.F.plainAttrs_str PySem.F.slot_str_join PySem.F.type_str_join (mt_ok hu .join) ho h hbase hfew hline hs hplain) main
  | index => exact PE_imp (pe_bm PySem.F.plainAttrs_list PySem.F.slot_list_index PySem.F.type_list_index (mt_ok hu .index) ho h hbase hfew hline hs hplain) main
  | get => exact PE_imp (pe_bm PySem.F.plainAttrs_dict PySem.F.slot_dict_get PySem.F.type_dict_get (mt_ok hu .get) ho h hbase hfew hline hs hplain) main
  | lower => exact absurd rfl hm
theorem sm_rev {e : Expr} {k : Nat} {p1 p2 p3 pos : Pos} {m : M Opd} (h : PE X e (mO X W m)) :
    PE X (.Subscript e (.Slice none none (some (.UnaryOp .USub (.Constant (.int 1) k p1) p2)) p3) pos) (mV X W (bnd m fun x => bnd (rdO x) revK)) := by
  refine PE_imp (pe_revA h) fun σ H Q ⟨F, fr, f, q⟩ => ⟨F, fr, f, Fin.bnd f ante_From _ _ q fun x v H1 F1 fr1 n1 r1 g1 q1 => ?_⟩
  obtain ⟨d, rd, q2⟩ := Fin.rdO n1.fm r1 q1
  cases d with
  | lst ds =>
    obtain ⟨a, vs, rfl, ha, rr⟩ := rb_lst rd
    exact ⟨a, vs, rfl, .inl ⟨SqL.of ha, fun p hp => Prim.lst n1.fm.ft (Fin.prim n1.fm q2) rr.reverse hp⟩⟩
  | tup ds =>
    obtain ⟨a, vs, rfl, ha, rr, _⟩ := rb_tup rd
    exact ⟨a, vs, rfl, .inr ⟨ha, fun p hp => Prim.tup n1.fm.ft (Fin.prim n1.fm q2) rr.reverse hp⟩⟩
  | _ => exact q2.elim
end
end MP

/-! MP: lists that change. -/
namespace MP
open PySem PySem.Spec PyProof.Rows L2
section
variable {K : PySem.W.Frag} {mg : Str → Option Value} {W : WX} {H : Hp} {F : FS} {fr : Fr} {σ : Sg} {i : Nat} {a : Addr} {vs vs' : List V} {ds ys : List D}
theorem Fm.frz (f : Fm K H F fr σ) (hi : fr.sl i = .own ds) (ev : sv σ i = some (.ref a)) {b : Addr} (hb : F b) : b ≠ a := fun e => by
  have := (f.own ⟨i, by rw [hi]; rfl, ev⟩).2
  rw [e] at hb; exact this hb
theorem Nx.chg (f : Fm K H F fr σ) (hi : fr.sl i = .own ds) (ev : sv σ i = some (.ref a)) (r : Reps K H F vs' ys) : Nx K σ H F fr (fr.set i (.own ys)) (upd H a (.lst vs')) F := by
  have hil : i < fr.length := sl_lt (fun e => by rw [hi] at e; cases e)
  have hheld : (fr.sl i).isHeld = true := by rw [hi]; rfl
  have fz : ∀ b, F b → upd H a (.lst vs') b = H b := fun b hb => upd_ne (f.frz hi ev hb)
  have nfa : ¬ F a := (f.own ⟨i, by rw [hi]; rfl, ev⟩).2
  have ld : ∀ j, (Fr.sl (fr.set i (.own ys)) j).isHeld = true → (fr.sl j).isHeld = true := fun j hj => by
    rw [sl_set] at hj
    split at hj
    · rename_i e; obtain ⟨rfl, _⟩ := e; exact hheld
    · exact hj
  refine ⟨⟨by rw [List.length_set]; exact f.len, fun j => ?_, fun j k b hj hk ej ek => f.dis j k b (ld j hj) (ld k hk) ej ek, fun b hb => by rw [fz b hb]; exact f.ft b hb⟩, fun _ h => h, fun b hb => ?_, fun b hb hno => ?_, fun _ _ _ _ h => h, fun j hj => ?_, ld⟩
  · rw [sl_set]
    split
    · rename_i e; obtain ⟨rfl, _⟩ := e
      exact ⟨a, vs', ev, upd_same, r.mono (fun _ h => h) fz, nfa⟩
    · rename_i ne
      have ne' : i ≠ j := fun e => ne ⟨e, hil⟩
      have q := f.rep j
      have key : ∀ b, (fr.sl j).isHeld = true → sv σ j = some (.ref b) → b ≠ a := fun b hb eb e => ne' (f.dis i j a hheld hb ev (by rw [eb, e]))
      cases y : fr.sl j with
      | un => trivial
      | val d =>
        rw [y] at q
        obtain ⟨x, ex, q⟩ := q
        exact ⟨x, ex, q.mono (fun _ h => h) fz⟩
      | own d =>
        rw [y] at q
        obtain ⟨b, ws, ex, h1, q, nf⟩ := q
        exact ⟨b, ws, ex, by rw [upd_ne (key b (by rw [y]; rfl) ex)]; exact h1, q.mono (fun _ h => h) fz, nf⟩
      | lk d =>
        rw [y] at q
        obtain ⟨b, ws, ex, h1, q, nf⟩ := q
        exact ⟨b, ws, ex, by rw [upd_ne (key b (by rw [y]; rfl) ex)]; exact h1, q.mono (fun _ h => h) fz, nf⟩
  · by_cases e : b = a
    · rw [e, upd_same]; intro q; cases q
    · rw [upd_ne e]; exact hb
  · exact upd_ne fun e => hno ⟨i, by rw [hi]; rfl, by rw [e]; exact ev⟩
  · rw [sl_set] at hj
    split at hj
    · rename_i e; obtain ⟨rfl, _⟩ := e; rw [hi]; rfl
    · exact hj
section
variable {α ρ : Type} {R : Rl α ρ} {G : Gn α ρ} {Q : ρ → Hp → Prop}
theorem Fin.ownAt {k : Unit → M α} (f : Fm K H F fr σ) (h : Fin K mg W R G σ H F fr (MP.bnd (MP.ownAt i) k fr) Q) : ∃ ds a vs, fr.sl i = .own ds ∧ sv σ i = some (.ref a) ∧ H a = some (.lst vs) ∧ Reps K H F vs ds ∧ Fin K mg W R G σ H F fr (k () fr) Q := by
  unfold MP.bnd MP.ownAt at h
  have r := f.rep i
  cases y : fr.sl i with
  | own ds =>
    rw [y] at h r
    obtain ⟨a, vs, ex, h1, q, _⟩ := r
    exact ⟨ds, a, vs, rfl, ex, h1, q, h⟩
  | _ => rw [y] at h; exact h.elim
theorem Fin.chg {g : List D → Option (Slot × List D)} {k : Slot → M α} (f : Fm K H F fr σ) (h : Fin K mg W R G σ H F fr (MP.bnd (MP.chg i g) k fr) Q) : ∃ ds a vs s ys, fr.sl i = .own ds ∧ sv σ i = some (.ref a) ∧ H a = some (.lst vs) ∧ Reps K H F vs ds ∧ g ds = some (s, ys) ∧ Fin K mg W R G σ H F fr (k s (fr.set i (.own ys))) Q := by
  unfold MP.bnd MP.chg at h
  have r := f.rep i
  cases y : fr.sl i with
  | own ds =>
    rw [y] at h r
    obtain ⟨a, vs, ex, h1, q, _⟩ := r
    cases e : g ds with
    | none => simp only [e] at h; exact h.elim
    | some p =>
      simp only [e] at h
      exact ⟨ds, a, vs, p.1, p.2, rfl, ex, h1, q, e, h⟩
  | _ => rw [y] at h; exact h.elim
end
theorem Fin.chg1 {g : List D → Option (Slot × List D)} {Q : VK} (f : Fm K H F fr σ) (h : Fin K mg W (RS K) From σ H F fr (MP.chg i g fr) Q) : ∃ ds a vs s ys, fr.sl i = .own ds ∧ sv σ i = some (.ref a) ∧ H a = some (.lst vs) ∧ Reps K H F vs ds ∧ g ds = some (s, ys) ∧
    ∀ vs' v, Reps K H F vs' ys → (∀ H', (∀ b, F b → H' b = H b) → ∃ d, s = .val d ∧ Rep K H' F v d) → Q v (upd H a (.lst vs')) := by
  unfold MP.chg at h
  have r := f.rep i
  cases y : fr.sl i with
  | own ds =>
    rw [y] at h r
    obtain ⟨a, vs, ex, h1, q, _⟩ := r
    cases e : g ds with
    | none => simp only [e] at h; exact h.elim
    | some p =>
      simp only [e] at h
      refine ⟨ds, a, vs, p.1, p.2, rfl, ex, h1, q, e, fun vs' v r2 hr => ?_⟩
      obtain ⟨d, ed, rd⟩ := hr (upd H a (.lst vs')) fun b hb => upd_ne (f.frz y ex hb)
      rw [ed] at h
      exact h v _ F (Nx.chg f y ex r2) rd fun ds a e => by cases e
  | _ => rw [y] at h; exact h.elim
end
section
variable {X : Cx} {W : WX} {i : Nat} {x : Str} {p1 apos cpos : Pos}
theorem own_of {K : PySem.W.Frag} {σ : Sg} {H H1 : Hp} {F F1 : FS} {fr fr1 : Fr} (n : Nx K σ H F fr fr1 H1 F1) {a : Addr} (h : Own fr1 σ a) : Own fr σ a := n.own a h
theorem sm_app {e : Expr} {v : M Slot} (ho : PE X (.Name x p1) (tVar i)) (he : PE X e (mV X W v))
    (hbase : attributeBase (.Name x p1) "append" X.env (eval (.Name x p1) X.env) = eval (.Name x p1) X.env)
    (hfew : ((backTo cpos (starEach [e] X.env)).all (fun x => !x.1) && (backToKw cpos (keywordEach [] X.env)).all (fun x => x.1.isSome)
      && decide (([e] : List Expr).length + ([] : List Keyword).length + (if ([] : List Keyword).isEmpty then 0 else 1) < 30)) = true)
    (hline : (apos.endLine == cpos.line) = true) (hs : starEach [e] X.env = (false, eval e X.env) :: starEach [] X.env) :
    PE X (.Call (.Attribute (.Name x p1) "append" apos) [e] [] cpos) (mV X W (bnd (ownAt i) fun _ => bnd (fz v) fun d => chg i fun xs => when (decide (xs.length < sizeLine)) (.val .non, xs ++ [d]))) := by
  refine PE_imp (pe_bm PySem.F.plainAttrs_list PySem.F.slot_list_append PySem.F.type_list_append mt_append ho (pa_cons (sm_fz he) pa_nil hs) hbase hfew hline hs rfl) fun σ H Q ⟨F, fr, f, q⟩ => ?_
  obtain ⟨ds, a, vs, e1, e2, e3, e4, q1⟩ := Fin.ownAt f q
  refine ⟨.ref a, sv_some e2, .inl ⟨rfl, vs, SqL.of e3⟩, F, fr, f, Fin.bnd f ante_From _ _ q1 fun d w H1 F1 fr1 n1 r1 g1 q2 => ?_⟩
  obtain ⟨ds', a', vs', s, ys, y1, y2, y3, y4, y5, y6⟩ := Fin.chg1 n1.fm q2
  have ea : a' = a := by rw [e2] at y2; cases y2; rfl
  subst ea
  obtain ⟨c, ec⟩ := when_some y5
  cases ec
  exact ⟨a', vs', w, rfl, rfl, y3, by rw [y4.length]; exact of_decide_eq_true c, y6 _ _ (y4.append (.cons r1 .nil)) fun H' k => ⟨.non, rfl, .non⟩⟩
theorem sm_ext {e : Expr} {o : M Opd} (ho : PE X (.Name x p1) (tVar i)) (he : PE X e (mO X W o))
    (hbase : attributeBase (.Name x p1) "extend" X.env (eval (.Name x p1) X.env) = eval (.Name x p1) X.env)
    (hfew : ((backTo cpos (starEach [e] X.env)).all (fun x => !x.1) && (backToKw cpos (keywordEach [] X.env)).all (fun x => x.1.isSome)
      && decide (([e] : List Expr).length + ([] : List Keyword).length + (if ([] : List Keyword).isEmpty then 0 else 1) < 30)) = true)
    (hline : (apos.endLine == cpos.line) = true) (hs : starEach [e] X.env = (false, eval e X.env) :: starEach [] X.env) :
    PE X (.Call (.Attribute (.Name x p1) "extend" apos) [e] [] cpos) (mV X W (bnd (ownAt i) fun _ => bnd o fun y => bnd (rdO y) fun d => match d with
    | .lst ys => chg i fun xs => when (decide (xs.length + ys.length ≤ sizeLine)) (.val .non, xs ++ ys)
    | _ => bad)) := by
  refine PE_imp (pe_bm PySem.F.plainAttrs_list PySem.F.slot_list_extend PySem.F.type_list_extend mt_extend ho (pa_cons he pa_nil hs) hbase hfew hline hs rfl) fun σ H Q ⟨F, fr, f, q⟩ => ?_
  obtain ⟨ds, a, vs, e1, e2, e3, e4, q1⟩ := Fin.ownAt f q
  refine ⟨.ref a, sv_some e2, .inl ⟨rfl, vs, SqL.of e3⟩, F, fr, f, Fin.bnd f ante_From _ _ q1 fun d w H1 F1 fr1 n1 r1 g1 q2 => ?_⟩
  obtain ⟨d, rd, q3⟩ := Fin.rdO n1.fm r1 q2
  cases d with
  | lst zs =>
    obtain ⟨b, ws, rfl, hb, qb⟩ := rb_lst rd
    obtain ⟨ds', a', vs', s, ys, y1, y2, y3, y4, y5, y6⟩ := Fin.chg1 n1.fm q3
    have ea : a' = a := by rw [e2] at y2; cases y2; rfl
    subst ea
    obtain ⟨c, ec⟩ := when_some y5
    cases ec
    exact ⟨a', b, vs', ws, rfl, rfl, y3, hb, by rw [y4.length, qb.length]; exact of_decide_eq_true c, y6 _ _ (y4.append qb) fun H' k => ⟨.non, rfl, .non⟩⟩
  | _ => exact q3.elim
theorem sm_pop (ho : PE X (.Name x p1) (tVar i))
    (hbase : attributeBase (.Name x p1) "pop" X.env (eval (.Name x p1) X.env) = eval (.Name x p1) X.env) (hline : (apos.endLine == cpos.line) = true) :
    PE X (.Call (.Attribute (.Name x p1) "pop" apos) [] [] cpos) (mV X W (bnd (ownAt i) fun _ => chg i fun xs => xs[xs.length - 1]?.map fun d => (.val d, xs.dropLast))) := by
  refine PE_imp (pe_bm0 PySem.F.plainAttrs_list PySem.F.slot_list_pop PySem.F.type_list_pop mt_pop ho hbase hline) fun σ H Q ⟨F, fr, f, q⟩ => ?_
  obtain ⟨ds, a, vs, e1, e2, e3, e4, q1⟩ := Fin.ownAt f q
  refine ⟨.ref a, sv_some e2, .inl ⟨rfl, vs, SqL.of e3⟩, ?_⟩
  obtain ⟨ds', a', vs', s, ys, y1, y2, y3, y4, y5, y6⟩ := Fin.chg1 f q1
  cases z : ds'[ds'.length - 1]? with
  | none => rw [z] at y5; cases y5
  | some d =>
    rw [z] at y5; cases y5
    obtain ⟨w, ew, rw'⟩ := y4.get z
    exact ⟨a', vs', w, by rw [e2] at y2; cases y2; rfl, rfl, y3, by rw [y4.length]; exact ew, y6 _ _ y4.dropLast fun H' k => ⟨d, rfl, rw'.mono (fun _ h => h) k⟩⟩
theorem sm_revm (ho : PE X (.Name x p1) (tVar i))
    (hbase : attributeBase (.Name x p1) "reverse" X.env (eval (.Name x p1) X.env) = eval (.Name x p1) X.env) (hline : (apos.endLine == cpos.line) = true) :
    PE X (.Call (.Attribute (.Name x p1) "reverse" apos) [] [] cpos) (mV X W (bnd (ownAt i) fun _ => chg i fun xs => some (.val .non, xs.reverse))) := by
  refine PE_imp (pe_bm0 PySem.F.plainAttrs_list PySem.F.slot_list_reverse PySem.F.type_list_reverse mt_reverse ho hbase hline) fun σ H Q ⟨F, fr, f, q⟩ => ?_
  obtain ⟨ds, a, vs, e1, e2, e3, e4, q1⟩ := Fin.ownAt f q
  refine ⟨.ref a, sv_some e2, .inl ⟨rfl, vs, SqL.of e3⟩, ?_⟩
  obtain ⟨ds', a', vs', s, ys, y1, y2, y3, y4, y5, y6⟩ := Fin.chg1 f q1
  cases y5
  exact ⟨a', vs', by rw [e2] at y2; cases y2; rfl, rfl, y3, y6 _ _ y4.reverse fun H' k => ⟨.non, rfl, .non⟩⟩
end
end MP

/-! MP: what is walked. -/
namespace MP
open PySem PySem.Spec PyProof.Rows L2
/-- J walks the items, as long as the objects of A stand -/
def Wk (K : PySem.W.Frag) (H : Hp) (F : FS) (items : List D) (J : It) (A : Addr → Prop) : Prop :=
  ∀ H' F', (∀ a, A a → H' a = H a) → (∀ a, F a → F' a) → (∀ a, F a → H' a = H a) → FT F' H' →
    (∀ i, i < items.length → J.go i H') ∧ J.stop items.length H' ∧
    ∀ i x H'', i < items.length → J.yld i H' x H'' → ∃ d F'', items[i]? = some d ∧ Grow H' F' H'' F'' ∧ Rep K H'' F'' x d
def RIt (K : PySem.W.Frag) : Rl Itm It := fun σ H F fr p J => (∃ A : Addr → Prop, (∀ a, A a → H a ≠ none ∧ ¬ Own fr σ a) ∧ Wk K H F p.1 J A) ∧ ∀ i ∈ p.2, ∃ xs, fr.sl i = .lk xs
def GIt : Gn Itm It := fun σ H fr p J => ∀ i ∈ p.2, (fr.sl i).isOwn = true
theorem ante_GIt {K : PySem.W.Frag} : Ante K GIt := ⟨fun n h i hi => n.ownS i (h i hi)⟩
abbrev mI (X : Cx) (W : WX) (m : M Itm) : TI := Sm X.K X.mg W (RIt X.K) GIt m
section
variable {X : Cx} {W : WX} {tg : Expr}
theorem PI_imp {e : Expr} {t t' : TI} (h : PI X tg e t) (i : ∀ σ H Q, t' σ H Q → t σ H Q) : PI X tg e t' := ⟨fun pins s σ H Q I q => h.run pins s σ H Q I (i σ H Q q)⟩
theorem pi_bad {e : Expr} : PI X tg e (mI X W bad) := ⟨fun _ _ _ _ _ _ ⟨_, _, _, q⟩ => q.elim⟩
/-- a list, a tuple, a text -/
def iAny (K : PySem.W.Frag) (tl : TE) : TI := fun σ H R => tl σ H fun x H1 => (∃ a, x = .ref a ∧ (∃ xs, SqL K H1 a xs) ∧ R (Itl K a) H1) ∨ (∃ a, x = .ref a ∧ (∃ xs, SqT K H1 a xs) ∧ R (Itt K a) H1) ∨ ∃ z, x = .str z ∧ R (L2.Its z) H1
theorem pi_any {l : Expr} {tl : TE} (hl : PE X l tl) : PI X tg l (iAny X.K tl) := by
  refine ⟨fun pins s σ H R I h => ?_⟩
  refine thn (hl.run pins s σ H _ I h) fun v s1 ⟨x, H1, I1, r1, q1⟩ => ?_
  rcases q1 with ⟨a, e, ⟨xs, hq⟩, q⟩ | ⟨a, e, ⟨xs, hq⟩, q⟩ | ⟨z, e, q⟩
  · subst e
    cases r1
    obtain ⟨its, rv, p, hz⟩ := I1.list hq
    refine wpAny_pyIter_list p.isList ?_
    refine ⟨s1.heap.objs.size, [s1.heap.objs.size], _, _, H1, rfl, I1.kept (t' := s1.toks) fun b o e => Heap.get?_push_of_some _ e, turn_list a _, ⟨_, Heap.get?_push_size _ rfl, rfl, rfl⟩, fun b hb => ?_, q⟩
    have e : b = s1.heap.objs.size := by simpa using hb
    subst e
    exact I1.fpOk (Nat.le_refl _) (I1.hok.fresh (Nat.le_refl _))
  · subst e
    cases r1
    obtain ⟨its, rv, p, hz⟩ := I1.tuple hq
    refine wpAny_pyIter_tuple (show s1.heap.IsTuple a its.toArray from p) ?_
    refine ⟨s1.heap.objs.size, [s1.heap.objs.size], _, _, H1, rfl, I1.kept (t' := s1.toks) fun b o e => Heap.get?_push_of_some _ e, turn_tuple a _, ⟨_, Heap.get?_push_size _ rfl, rfl, rfl⟩, fun b hb => ?_, q⟩
    have e : b = s1.heap.objs.size := by simpa using hb
    subst e
    exact I1.fpOk (Nat.le_refl _) (I1.hok.fresh (Nat.le_refl _))
  · subst e
    obtain ⟨t, rfl⟩ := r1
    cases ha : z.cps.all (· < 128)
    · exact wpAny_pyIter_wide ha (pi_one (tk := s1.toks) I1 _ (turn_str _ z t "str_iterator" (.inr rfl)) ⟨_, Heap.get?_push_size _ rfl, rfl, rfl⟩ q)
    · exact wpAny_pyIter_ascii ha (pi_one (tk := s1.toks) I1 _ (turn_str _ z t "str_ascii_iterator" (.inl rfl)) ⟨_, Heap.get?_push_size _ rfl, rfl, rfl⟩ q)
end
section
variable {K : PySem.W.Frag} {H H1 : Hp} {F F1 : FS} {a b : Addr} {vs ws : List V} {ds es : List D}
theorem wk_lst (ha : H a = some (.lst vs)) (r : Reps K H F vs ds) : Wk K H F ds (Itl K a) (fun b => b = a) := by
  intro H' F' hA hs hk ft
  have e : H' a = some (.lst vs) := (hA a rfl).trans ha
  have r' := r.mono hs hk
  refine ⟨fun i hi => ?_, ⟨vs, SqL.of e, by rw [r.length]; exact Nat.le_refl _⟩, fun i x H'' hi hy => ?_⟩
  · obtain ⟨v, ev, _⟩ := r'.get (List.getElem?_eq_getElem hi)
    exact ⟨vs, v, SqL.of e, ev⟩
  · obtain ⟨rfl, h2⟩ := hy
    obtain ⟨d, ed, rd⟩ := r'.getV (h2 vs (SqL.of e))
    exact ⟨d, F', ed, .refl ft, rd⟩
theorem wk_tup (ha : TAt K H F a vs) (r : Reps K H F vs ds) : Wk K H F ds (Itt K a) (fun _ => False) := by
  intro H' F' hA hs hk ft
  have e := (ha.mono hs hk).sqt
  have r' := r.mono hs hk
  refine ⟨fun i hi => ?_, ⟨vs, e, by rw [r.length]; exact Nat.le_refl _⟩, fun i x H'' hi hy => ?_⟩
  · obtain ⟨v, ev, _⟩ := r'.get (List.getElem?_eq_getElem hi)
    exact ⟨vs, v, e, ev⟩
  · obtain ⟨rfl, h2⟩ := hy
    obtain ⟨d, ed, rd⟩ := r'.getV (h2 vs e)
    exact ⟨d, F', ed, .refl ft, rd⟩
theorem wk_scr {ns : List Int} (ha : SAt K H F a (ns.map V.int)) : Wk K H F (ns.map D.int) (Itl K a) (fun _ => False) := by
  intro H' F' hA hs hk ft
  have e : SqL K H' a (ns.map V.int) := (ha.mono hs hk).sql
  have r' : Reps K H' F' (ns.map V.int) (ns.map D.int) := Reps.ofInts ns
  refine ⟨fun i hi => ?_, ⟨_, e, by rw [List.length_map, List.length_map]; exact Nat.le_refl _⟩, fun i x H'' hi hy => ?_⟩
  · obtain ⟨v, ev, _⟩ := r'.get (List.getElem?_eq_getElem hi)
    exact ⟨_, v, e, ev⟩
  · obtain ⟨rfl, h2⟩ := hy
    obtain ⟨d, ed, rd⟩ := r'.getV (h2 _ e)
    exact ⟨d, F', ed, .refl ft, rd⟩
theorem wk_str {x : Str} : Wk K H F (x.cps.toList.map fun c => .str ⟨#[c]⟩) (L2.Its x) (fun _ => False) := by
  intro H' F' hA hs hk ft
  refine ⟨fun i hi => ?_, ?_, fun i v H'' hi hy => ?_⟩
  · show i < x.cps.size; simpa using hi
  · show x.cps.size ≤ _; simp
  · obtain ⟨rfl, c, hc, rfl⟩ := hy
    refine ⟨.str ⟨#[c]⟩, F', ?_, .refl ft, .str _⟩
    rw [List.getElem?_map]
    have : x.cps.toList[i]? = some c := by rw [Array.getElem?_toList]; exact hc
    rw [this]; rfl
theorem upto_len : ∀ (n : Nat) (lo : Int), (upto lo n).length = n
  | 0, _ => rfl
  | n + 1, lo => by simp [upto, upto_len n]
theorem upto_get : ∀ (n : Nat) (lo : Int) (i : Nat), i < n → (upto lo n)[i]? = some (.int (lo + i))
  | 0, _, _, h => by omega
  | n + 1, lo, 0, _ => by simp [upto]
  | n + 1, lo, i + 1, h => by
    have := upto_get n (lo + 1) i (by omega)
    simp only [upto, List.getElem?_cons_succ, this]
    congr 2; omega
theorem wk_rng {lo : Int} {n : Nat} : Wk K H F (upto lo n) (Itr lo n) (fun _ => False) := by
  intro H' F' hA hs hk ft
  refine ⟨fun i hi => ?_, ?_, fun i v H'' hi hy => ?_⟩
  · show i < n; rw [upto_len] at hi; exact hi
  · show n ≤ _; rw [upto_len]; exact Nat.le_refl _
  · obtain ⟨rfl, rfl⟩ := hy
    rw [upto_len] at hi
    exact ⟨_, F', upto_get n lo i hi, .refl ft, .int _⟩
theorem enuI_len : ∀ (xs : List D) (lo : Int), (enuI lo xs).length = xs.length
  | [], _ => rfl
  | _ :: xs, lo => by simp [enuI, enuI_len xs]
theorem enuI_get : ∀ (xs : List D) (lo : Int) (i : Nat) (d : D), xs[i]? = some d → (enuI lo xs)[i]? = some (.tup [.int (lo + i), d])
  | [], _, _, _, h => by simp at h
  | x :: xs, lo, 0, d, h => by simp at h; subst h; simp [enuI]
  | x :: xs, lo, i + 1, d, h => by
    have := enuI_get xs (lo + 1) i d (by simpa using h)
    simp only [enuI, List.getElem?_cons_succ, this]
    congr 4; omega
theorem grow_pair {H' H'' : Hp} {F' : FS} {T : Addr} {us : List V} {xs : List D} (ft : FT F' H') (hn : H' T = none) (e : H'' = upd H' T (.tup us)) (r : Reps K H' F' us xs) : ∃ F'', Grow H' F' H'' F'' ∧ Rep K H'' F'' (.ref T) (.tup xs) := by
  subst e
  have g := grow_newF (o := .tup us) ft hn
  exact ⟨_, g, .tup (.inl ⟨.inr rfl, upd_same⟩) (r.mono g.sub (g.frz ft))⟩
theorem wk_enu (ha : H a = some (.lst vs)) (r : Reps K H F vs ds) : Wk K H F (enuI 0 ds) (Ite K a) (fun b => b = a) := by
  intro H' F' hA hs hk ft
  have e : H' a = some (.lst vs) := (hA a rfl).trans ha
  have r' := r.mono hs hk
  refine ⟨fun i hi => ?_, ⟨vs, SqL.of e, by rw [r.length, enuI_len]; exact Nat.le_refl _⟩, fun i x H'' hi hy => ?_⟩
  · rw [enuI_len] at hi
    obtain ⟨v, ev, _⟩ := r'.get (List.getElem?_eq_getElem hi)
    exact ⟨vs, v, SqL.of e, ev⟩
  · obtain ⟨T, y, rfl, hn, hH, h2⟩ := hy
    obtain ⟨d, ed, rd⟩ := r'.getV (h2 vs (SqL.of e))
    obtain ⟨F'', g, rr⟩ := grow_pair (K := K) (xs := [.int (i : Nat), d]) ft hn hH (.cons (.int _) (.cons rd .nil))
    refine ⟨_, F'', ?_, g, rr⟩
    rw [enuI_get ds 0 i d ed]
    congr 4; omega
theorem zip2_get : ∀ (xs ys : List D) (i : Nat) (d e : D), xs[i]? = some d → ys[i]? = some e → (zip2I xs ys)[i]? = some (.tup [d, e])
  | [], _, _, _, _, h, _ => by simp at h
  | _ :: _, [], _, _, _, _, h => by simp at h
  | x :: xs, y :: ys, 0, d, e, h, h2 => by simp at h h2; subst h h2; simp [zip2I]
  | x :: xs, y :: ys, i + 1, d, e, h, h2 => by
    have := zip2_get xs ys i d e (by simpa using h) (by simpa using h2)
    simpa [zip2I] using this
theorem zip2_len : ∀ (xs ys : List D), (zip2I xs ys).length = min xs.length ys.length
  | [], ys => by simp [zip2I]
  | _ :: _, [] => by simp [zip2I]
  | x :: xs, y :: ys => by simp [zip2I, zip2_len xs ys]
theorem wk_zipL (ha : H a = some (.lst vs)) (r : Reps K H F vs ds) (hb : H b = some (.lst ws)) (q : Reps K H F ws es) : Wk K H F (zip2I ds es) (Itz K a b) (fun c => c = a ∨ c = b) := by
  intro H' F' hA hs hk ft
  have e : H' a = some (.lst vs) := (hA a (.inl rfl)).trans ha
  have e2 : H' b = some (.lst ws) := (hA b (.inr rfl)).trans hb
  have r' := r.mono hs hk
  have q' := q.mono hs hk
  refine ⟨fun i hi => ?_, ⟨vs, ws, SqL.of e, SqL.of e2, by rw [r.length, q.length, zip2_len]; omega⟩, fun i x H'' hi hy => ?_⟩
  · rw [zip2_len] at hi
    obtain ⟨v, ev, _⟩ := r'.get (List.getElem?_eq_getElem (show i < ds.length by omega))
    obtain ⟨w, ew, _⟩ := q'.get (List.getElem?_eq_getElem (show i < es.length by omega))
    exact ⟨vs, ws, v, w, SqL.of e, SqL.of e2, ev, ew⟩
  · obtain ⟨T, y, z, rfl, hn, hH, h2, h3⟩ := hy
    obtain ⟨d, ed, rd⟩ := r'.getV (h2 vs (SqL.of e))
    obtain ⟨d2, ed2, rd2⟩ := q'.getV (h3 ws (SqL.of e2))
    obtain ⟨F'', g, rr⟩ := grow_pair (K := K) (xs := [d, d2]) ft hn hH (.cons rd (.cons rd2 .nil))
    exact ⟨_, F'', zip2_get ds es i d d2 ed ed2, g, rr⟩
theorem wk_zipT (ha : TAt K H F a vs) (r : Reps K H F vs ds) (hb : TAt K H F b ws) (q : Reps K H F ws es) : Wk K H F (zip2I ds es) (RZ.ItzT K a b) (fun _ => False) := by
  intro H' F' hA hs hk ft
  have e := (ha.mono hs hk).sqt
  have e2 := (hb.mono hs hk).sqt
  have r' := r.mono hs hk
  have q' := q.mono hs hk
  refine ⟨fun i hi => ?_, ⟨vs, ws, e, e2, by rw [r.length, q.length, zip2_len]; omega⟩, fun i x H'' hi hy => ?_⟩
  · rw [zip2_len] at hi
    obtain ⟨v, ev, _⟩ := r'.get (List.getElem?_eq_getElem (show i < ds.length by omega))
    obtain ⟨w, ew, _⟩ := q'.get (List.getElem?_eq_getElem (show i < es.length by omega))
    exact ⟨vs, ws, v, w, e, e2, ev, ew⟩
  · obtain ⟨T, y, z, rfl, hn, hH, h2, h3⟩ := hy
    obtain ⟨d, ed, rd⟩ := r'.getV (h2 vs e)
    obtain ⟨d2, ed2, rd2⟩ := q'.getV (h3 ws e2)
    obtain ⟨F'', g, rr⟩ := grow_pair (K := K) (xs := [d, d2]) ft hn hH (.cons rd (.cons rd2 .nil))
    exact ⟨_, F'', zip2_get ds es i d d2 ed ed2, g, rr⟩
end
/-! an operand is walked -/
/-- the object that is walked: a list (its address), or what does not change -/
inductive Src (K : PySem.W.Frag) (H : Hp) (F : FS) (v : V) : D → (Addr → Prop) → Prop
  | lst {a : Addr} {vs : List V} {ds : List D} : v = .ref a → H a = some (.lst vs) → Reps K H F vs ds → Src K H F v (.lst ds) (fun b => b = a)
  | tup {a : Addr} {vs : List V} {ds : List D} : v = .ref a → TAt K H F a vs → Reps K H F vs ds → Src K H F v (.tup ds) (fun _ => False)
  | scr {a : Addr} {ns : List Int} : v = .ref a → SAt K H F a (ns.map V.int) → Src K H F v (.scr ns) (fun _ => False)
  | str {x : Str} : v = .str x → Src K H F v (.str x) (fun _ => False)
theorem rdO_or (o : Opd) (fr : Fr) : MP.rdO o fr = .bad ∨ ∃ d, MP.rdO o fr = .ok d fr := by
  cases o with
  | «at» i => cases y : (fr.sl i).d? <;> simp [MP.rdO, MP.opt, y, MP.ret, MP.bad]
  | sl s => cases y : s.d? <;> simp [MP.rdO, MP.opt, y, MP.ret, MP.bad]
section
variable {K : PySem.W.Frag} {mg : Str → Option Value} {W : WX} {H : Hp} {F : FS} {fr : Fr} {σ : Sg} {v : V} {d : D} {xs : List D}
theorem src_of (r : RB K H F v d) (h : seqI d = some xs) : ∃ A, Src K H F v d A ∧ (∀ a, A a → v = .ref a ∧ (∃ vs, H a = some (.lst vs)) ∧ ∃ ds, d = .lst ds) := by
  cases d with
  | lst ds =>
    obtain ⟨a, vs, rfl, ha, q⟩ := rb_lst r
    cases h
    exact ⟨_, .lst rfl ha q, fun b e => by subst e; exact ⟨rfl, ⟨vs, ha⟩, _, rfl⟩⟩
  | tup ds =>
    rcases r with r | ⟨_, _, _, _, e, _⟩
    · cases r with
      | tup t q => cases h; exact ⟨_, .tup rfl t q, fun _ e => e.elim⟩
    · cases e
  | scr ns =>
    rcases r with r | ⟨_, _, _, _, e, _⟩
    · cases r with
      | scr t => cases h; exact ⟨_, .scr rfl t, fun _ e => e.elim⟩
    · cases e
  | str x =>
    obtain rfl := rb_str r
    obtain ⟨_, rfl⟩ := when_some h
    exact ⟨_, .str rfl, fun _ e => e.elim⟩
  | _ => cases h
/-- behind the lock nothing that is walked is ours to change -/
theorem itO_ok {α : Type} {P : Out α → Prop} (hP : ¬ P .bad) {o : Opd} {k : Itm → M α} (f : Fm K H F fr σ) (r : RO K σ H F fr o v) (h : P (MP.bnd (MP.itO o) k fr)) :
    ∃ d p fr1 A, RB K H F v d ∧ (∀ d', MP.rdO o fr = Out.ok d' fr → d' = d) ∧ seqI d = some p.1 ∧ Nx K σ H F fr fr1 H F ∧ RO K σ H F fr1 o v ∧ Src K H F v d A ∧ (∀ a, A a → H a ≠ none ∧ ¬ Own fr1 σ a) ∧ (∀ i ∈ p.2, ∃ xs, fr1.sl i = .lk xs) ∧ (∀ i ∈ p.2, (fr.sl i).isOwn = true) ∧ P (k p fr1) := by
  have stay : ∀ d, RB K H F v d → (∀ d', MP.rdO o fr = Out.ok d' fr → d' = d) → (∀ a ds, d = .lst ds → v = .ref a → ¬ Own fr σ a) → P (bndO (MP.opt ((seqI d).map fun xs => ((xs, []) : Itm)) fr) k) → ∃ d p fr1 A, RB K H F v d ∧ (∀ d', MP.rdO o fr = Out.ok d' fr → d' = d) ∧ seqI d = some p.1 ∧ Nx K σ H F fr fr1 H F ∧ RO K σ H F fr1 o v ∧ Src K H F v d A ∧ (∀ a, A a → H a ≠ none ∧ ¬ Own fr1 σ a) ∧ (∀ i ∈ p.2, ∃ xs, fr1.sl i = .lk xs) ∧ (∀ i ∈ p.2, (fr.sl i).isOwn = true) ∧ P (k p fr1) := by
    intro d rb hd no h
    cases e : seqI d with
    | none => rw [e] at h; exact (hP h).elim
    | some xs =>
      rw [e] at h
      obtain ⟨A, s, hA⟩ := src_of rb e
      exact ⟨d, (xs, []), fr, A, rb, hd, e, .refl f, r, s, fun a ha => by
        obtain ⟨h1, ⟨vs, h2⟩, ds, h3⟩ := hA a ha
        exact ⟨by rw [h2]; (intro q; cases q), no a ds h3 h1⟩, fun i hi => by simp at hi, fun i hi => by simp at hi, h⟩
  cases o with
  | sl s =>
    cases e : s.d? with
    | none =>
      have h : P (bndO (MP.opt ((s.d?.bind seqI).map fun xs => ((xs, []) : Itm)) fr) k) := h
      rw [e] at h; exact (hP h).elim
    | some d =>
      have h : P (bndO (MP.opt ((s.d?.bind seqI).map fun xs => ((xs, []) : Itm)) fr) k) := h
      rw [e] at h
      refine stay d (RS.rb r e) (fun d' q => ?_) (fun a ds ed ea => ?_) h
      · have q : MP.opt s.d? fr = .ok d' fr := q
        rw [e] at q; cases q; rfl
      · cases s with
        | un => cases e
        | lk _ => exact r.elim
        | own ds =>
          obtain ⟨b, vs, eb, _, _, _, no, _⟩ := r
          rw [ea] at eb; cases eb; exact no
        | val d' =>
          intro ow
          have e0 : d' = d := Option.some.inj e
          have r' : Rep K H F v d := by rw [← e0]; exact r
          rw [ea, ed] at r'
          cases r' with
          | lst t _ => exact (f.own ow).2 t.1
  | «at» i =>
    have hr := f.rep i
    have ei : sv σ i = some v := r
    cases y : fr.sl i with
    | un =>
      have h : P (bndO (match fr.sl i with
        | .own xs => .ok (xs, [i]) (fr.set i (.lk xs))
        | s => MP.opt ((s.d?.bind seqI).map fun xs => ((xs, []) : Itm)) fr) k) := h
      rw [y] at h; exact (hP h).elim
    | val d =>
      have h : P (bndO (match fr.sl i with
        | .own xs => .ok (xs, [i]) (fr.set i (.lk xs))
        | s => MP.opt ((s.d?.bind seqI).map fun xs => ((xs, []) : Itm)) fr) k) := h
      rw [y] at h hr
      obtain ⟨x, ex, rr⟩ := hr
      rw [ei] at ex; cases ex
      refine stay d (.inl rr) (fun d' q => ?_) (fun a ds ed ea ow => ?_) h
      · have q : MP.opt (fr.sl i).d? fr = .ok d' fr := q
        rw [y] at q; cases q; rfl
      · rw [ea, ed] at rr
        cases rr with
        | lst t _ => exact (f.own ow).2 t.1
    | lk ds =>
      have h : P (bndO (match fr.sl i with
        | .own xs => .ok (xs, [i]) (fr.set i (.lk xs))
        | s => MP.opt ((s.d?.bind seqI).map fun xs => ((xs, []) : Itm)) fr) k) := h
      rw [y] at h hr
      obtain ⟨a, vs, ex, h1, rr, nf⟩ := hr
      rw [ei] at ex; cases ex
      refine stay (.lst ds) (.inr ⟨a, vs, ds, rfl, rfl, h1, rr⟩) (fun d' q => ?_) (fun b ds' ed ea ow => ?_) h
      · have q : MP.opt (fr.sl i).d? fr = .ok d' fr := q
        rw [y] at q; cases q; rfl
      · cases ea
        obtain ⟨j, hj, ej⟩ := ow
        have := f.dis i j a (by rw [y]; rfl) (by unfold Slot.isHeld; rw [hj]; rfl) ei ej
        subst this
        rw [y] at hj; cases hj
    | own ds =>
      have h : P (bndO (match fr.sl i with
        | .own xs => .ok (xs, [i]) (fr.set i (.lk xs))
        | s => MP.opt ((s.d?.bind seqI).map fun xs => ((xs, []) : Itm)) fr) k) := h
      rw [y] at h hr
      obtain ⟨a, vs, ex, h1, rr, nf⟩ := hr
      have ex2 := ex
      rw [ei] at ex; cases ex
      have hil : i < fr.length := sl_lt (fun e => by rw [y] at e; cases e)
      have n : Nx K σ H F fr (fr.set i (.lk ds)) H F := Nx.slot f (fun _ h => h) (fun _ h => .inl h) ⟨a, vs, ex2, h1, rr, nf⟩ (fun _ => by rw [y]; rfl) (fun h => by cases h)
      refine ⟨.lst ds, (ds, [i]), fr.set i (.lk ds), fun b => b = a, .inr ⟨a, vs, ds, rfl, rfl, h1, rr⟩, fun d' q => ?_, rfl, n, ei, .lst rfl h1 rr, fun b eb => ?_, fun j hj => ?_, fun j hj => ?_, h⟩
      · have q : MP.opt (fr.sl i).d? fr = .ok d' fr := q
        rw [y] at q; cases q; rfl
      · subst eb
        refine ⟨by rw [h1]; (intro q; cases q), fun ow => ?_⟩
        obtain ⟨j, hj, ej⟩ := ow
        have hj2 := hj
        rw [sl_set] at hj
        split at hj
        · cases hj
        · rename_i ne
          have := f.dis i j b (by rw [y]; rfl) (by unfold Slot.isHeld; rw [hj]; rfl) ei ej
          exact ne ⟨this, hil⟩
      · have e : j = i := by simpa using hj
        subst e
        exact ⟨ds, sl_set_eq fr hil _⟩
      · have e : j = i := by simpa using hj
        subst e
        rw [y]; rfl
end
end MP

/-! MP: iterators; comprehensions. -/
namespace MP
open PySem PySem.Spec PyProof.Rows L2
theorem bnd_ret {α : Type} (m : M α) : bnd m ret = m := by
  funext fr
  unfold bnd
  cases m fr <;> rfl
section
variable {K : PySem.W.Frag} {H : Hp} {F : FS} {v : V} {d : D} {xs : List D} {A : Addr → Prop} {R : It → Hp → Prop}
theorem src_walk (s : Src K H F v d A) (hx : seqI d = some xs) (h : ∀ J, Wk K H F xs J A → R J H) :
    (∃ a, v = .ref a ∧ (∃ xs, SqL K H a xs) ∧ R (Itl K a) H) ∨ (∃ a, v = .ref a ∧ (∃ xs, SqT K H a xs) ∧ R (Itt K a) H) ∨ ∃ z, v = .str z ∧ R (L2.Its z) H := by
  cases s with
  | lst e h1 r => cases hx; exact .inl ⟨_, e, ⟨_, SqL.of h1⟩, h _ (wk_lst h1 r)⟩
  | tup e h1 r => cases hx; exact .inr (.inl ⟨_, e, ⟨_, h1.sqt⟩, h _ (wk_tup h1 r)⟩)
  | scr e h1 => cases hx; exact .inl ⟨_, e, ⟨_, h1.sql⟩, h _ (wk_scr h1)⟩
  | str e =>
    obtain ⟨_, rfl⟩ := when_some hx
    exact .inr (.inr ⟨_, e, h _ wk_str⟩)
end
section
variable {X : Cx} {W : WX} {tg : Expr}
theorem it_core {o : Opd} {v : V} {σ : Sg} {H : Hp} {F : FS} {fr : Fr} {Q : It → Hp → Prop} (f : Fm X.K H F fr σ) (r : RO X.K σ H F fr o v) (h : Fin X.K X.mg W (RIt X.K) GIt σ H F fr (itO o fr) Q) :
    (∃ a, v = .ref a ∧ (∃ xs, SqL X.K H a xs) ∧ Q (Itl X.K a) H) ∨ (∃ a, v = .ref a ∧ (∃ xs, SqT X.K H a xs) ∧ Q (Itt X.K a) H) ∨ ∃ z, v = .str z ∧ Q (L2.Its z) H := by
  rw [← bnd_ret (itO o)] at h
  obtain ⟨d, p, fr1, A, _, _, es, n, _, s, hA, hl, hg, h⟩ := itO_ok (P := fun o => Fin X.K X.mg W (RIt X.K) GIt σ H F fr o Q) id f r h
  exact src_walk s es fun J wk => h J H F n ⟨⟨A, hA, wk⟩, hl⟩ hg
theorem sm_itv {i : Nat} {e : Expr} (h : PE X e (tVar i)) : PI X tg e (mI X W (itO (.at i))) := by
  refine PI_imp (pi_any h) fun σ H Q ⟨F, fr, f, q⟩ => ?_
  have hr := f.rep i
  cases y : fr.sl i with
  | un =>
    have q : Fin X.K X.mg W (RIt X.K) GIt σ H F fr (match fr.sl i with
        | .own xs => .ok (xs, [i]) (fr.set i (.lk xs))
        | s => MP.opt ((s.d?.bind seqI).map fun xs => ((xs, []) : Itm)) fr) Q := q
    rw [y] at q; exact q.elim
  | val d => rw [y] at hr; obtain ⟨x, ex, _⟩ := hr; exact ⟨x, sv_some ex, it_core (o := .at i) f ex q⟩
  | own d => rw [y] at hr; obtain ⟨a, vs, ex, _⟩ := hr; exact ⟨_, sv_some ex, it_core (o := .at i) f ex q⟩
  | lk d => rw [y] at hr; obtain ⟨a, vs, ex, _⟩ := hr; exact ⟨_, sv_some ex, it_core (o := .at i) f ex q⟩
theorem sm_it {m : M Slot} {e : Expr} (h : PE X e (mV X W m)) : PI X tg e (mI X W (bnd m fun s => itO (.sl s))) :=
  PI_imp (pi_any h) fun σ H Q ⟨F, fr, f, q⟩ => ⟨F, fr, f, Fin.bnd f ante_GIt _ _ q fun s v H1 F1 fr1 n1 r1 g1 q1 => it_core (o := .sl s) n1.fm r1 q1⟩
theorem rbs_ints1 {K : PySem.W.Frag} {H : Hp} {F : FS} {vs : List V} {j : Int} (r : RBs K H F vs [.int j]) : vs = [.int j] := by
  obtain ⟨x, rfl, q⟩ := rbs1 r
  rw [rb_int q]
theorem rbs_ints2 {K : PySem.W.Frag} {H : Hp} {F : FS} {vs : List V} {i j : Int} (r : RBs K H F vs [.int i, .int j]) : vs = [.int i, .int j] := by
  obtain ⟨x, y, rfl, p, q⟩ := rbs2 r
  rw [rb_int p, rb_int q]
theorem inRg_ok {i : Int} (h : inRg i = true) : -(2 ^ 62) ≤ i ∧ i < 2 ^ 62 := by
  unfold inRg at h
  simpa only [Bool.and_eq_true, decide_eq_true_eq] using h
abbrev rngM (xs : List Ev) : M Itm := bnd (opds xs) fun os => bnd (rdOs os) fun ds => bnd (opt (rngI ds)) fun xs => ret (xs, [])
theorem rng_core {xs : List Ev} {σ : Sg} {H : Hp} {F : FS} {fr : Fr} {Q : It → Hp → Prop} {os : List Opd} {vs : List V} (f : Fm X.K H F fr σ) (r : ROs X.K σ H F fr os vs)
    (h : Fin X.K X.mg W (RIt X.K) GIt σ H F fr (bnd (rdOs os) (fun ds => bnd (opt (rngI ds)) fun xs => ret ((xs, []) : Itm)) fr) Q) :
    (∃ j : Int, vs = [.int j] ∧ -(2 ^ 62) ≤ j ∧ j < 2 ^ 62 ∧ Q (Itr 0 j.toNat) H) ∨ ∃ i j : Int, vs = [.int i, .int j] ∧ (-(2 ^ 62) ≤ i ∧ i < 2 ^ 62 ∧ -(2 ^ 62) ≤ j ∧ j < 2 ^ 62) ∧ Q (Itr i (j - i).toNat) H := by
  obtain ⟨ds, rds, q2⟩ := Fin.rdOs f r h
  obtain ⟨items, ei, q3⟩ := Fin.opt q2
  unfold rngI at ei
  split at ei
  · obtain ⟨c, rfl⟩ := when_some ei
    have b := inRg_ok c
    exact .inl ⟨_, rbs_ints1 rds, b.1, b.2, q3 _ H F (.refl f) ⟨⟨_, fun _ e => e.elim, wk_rng⟩, fun i hi => by simp at hi⟩ fun i hi => by simp at hi⟩
  · obtain ⟨c, rfl⟩ := when_some ei
    rw [Bool.and_eq_true] at c
    have b1 := inRg_ok c.1
    have b2 := inRg_ok c.2
    exact .inr ⟨_, _, rbs_ints2 rds, ⟨b1.1, b1.2, b2.1, b2.2⟩, q3 _ H F (.refl f) ⟨⟨_, fun _ e => e.elim, wk_rng⟩, fun i hi => by simp at hi⟩ fun i hi => by simp at hi⟩
  · cases ei
theorem ros_len {K : PySem.W.Frag} {σ : Sg} {H : Hp} {F : FS} {fr : Fr} {os : List Opd} {vs : List V} (r : ROs K σ H F fr os vs) : vs.length = os.length := Paired.length r
/-- as many operands as were asked for -/
theorem opds_len : ∀ {xs : List Ev} {fr fr' : Fr} {os : List Opd}, opds xs fr = .ok os fr' → os.length = xs.length
  | [], _, _, _, h => by cases h; rfl
  | x :: xs, fr, fr', os, h => by
    unfold opds at h
    unfold bnd at h
    cases e : x.o fr with
    | ok o fr1 =>
      rw [e] at h
      have h : bndO (opds xs fr1) (fun xs => ret (o :: xs)) = .ok os fr' := h
      cases e2 : opds xs fr1 with
      | ok os' fr2 => rw [e2] at h; cases h; simp [opds_len e2]
      | ex _ _ => rw [e2] at h; cases h
      | bad => rw [e2] at h; cases h
    | ex _ _ => rw [e] at h; cases h
    | bad => rw [e] at h; cases h
theorem sm_rng1 {a : Expr} {x : Ev} {p pos : Pos} (hg : Gl X "range") (hm : X.mg "range" = none) (h : PA X [a] (mOs X W (opds [x]))) (hs : starEach [a] X.env = [(false, eval a X.env)]) :
    PI X tg (.Call (.Name "range" p) [a] [] pos) (mI X W (rngM [x])) := by
  refine PI_imp (pi_range1 hg hm h hs) fun σ H Q ⟨F, fr, f, q⟩ => ⟨F, fr, f, ?_⟩
  have key := Fin.bnd f ante_GIt (ROs X.K) (fun σ H fr os vs => FromOs σ H fr os vs) q (P := fun vs H1 => vs.length = 1 → ∃ j : Int, vs = [.int j] ∧ -(2 ^ 62) ≤ j ∧ j < 2 ^ 62 ∧ Q (Itr 0 j.toNat) H1) fun os vs H1 F1 fr1 n1 r1 g1 q1 hl => by
    rcases rng_core (xs := [x]) n1.fm r1 q1 with h | ⟨i, j, e, _⟩
    · exact h
    · rw [e] at hl; cases hl
  cases e : opds [x] fr with
  | bad => rw [e] at key; exact key
  | ex y fr1 => rw [e] at key; exact key
  | ok os fr1 =>
    rw [e] at key
    exact fun vs H' F' n r g => key vs H' F' n r g (by rw [ros_len r, opds_len e]; rfl)
theorem sm_rng2 {a b : Expr} {x y : Ev} {p pos : Pos} (hg : Gl X "range") (hm : X.mg "range" = none) (h : PA X [a, b] (mOs X W (opds [x, y]))) (hs : starEach [a, b] X.env = [(false, eval a X.env), (false, eval b X.env)]) (hs2 : starEach [b] X.env = [(false, eval b X.env)]) :
    PI X tg (.Call (.Name "range" p) [a, b] [] pos) (mI X W (rngM [x, y])) := by
  refine PI_imp (pi_range2 hg hm h hs hs2) fun σ H Q ⟨F, fr, f, q⟩ => ⟨F, fr, f, ?_⟩
  have key := Fin.bnd f ante_GIt (ROs X.K) (fun σ H fr os vs => FromOs σ H fr os vs) q (P := fun vs H1 => vs.length = 2 → ∃ i j : Int, vs = [.int i, .int j] ∧ (-(2 ^ 62) ≤ i ∧ i < 2 ^ 62 ∧ -(2 ^ 62) ≤ j ∧ j < 2 ^ 62) ∧ Q (Itr i (j - i).toNat) H1) fun os vs H1 F1 fr1 n1 r1 g1 q1 hl => by
    rcases rng_core (xs := [x, y]) n1.fm r1 q1 with ⟨j, e, _⟩ | h
    · rw [e] at hl; cases hl
    · exact h
  cases e : opds [x, y] fr with
  | bad => rw [e] at key; exact key
  | ex y fr1 => rw [e] at key; exact key
  | ok os fr1 =>
    rw [e] at key
    exact fun vs H' F' n r g => key vs H' F' n r g (by rw [ros_len r, opds_len e]; rfl)
/-! list(range(..)) -/
theorem opds1 {α : Type} (x : Ev) (k : List Opd → M α) : bnd (opds [x]) k = bnd x.o fun o => k [o] := by
  funext fr
  show bndO (bndO (x.o fr) fun o => bnd (opds []) fun os => ret (o :: os)) k = bndO (x.o fr) fun o => k [o]
  cases x.o fr <;> rfl
theorem opds2 {α : Type} (x y : Ev) (k : List Opd → M α) : bnd (opds [x, y]) k = bnd x.o fun o => bnd y.o fun p => k [o, p] := by
  funext fr
  show bndO (bndO (x.o fr) fun o => bnd (opds [y]) fun os => ret (o :: os)) k = bndO (x.o fr) fun o => bnd y.o fun p => k [o, p]
  cases x.o fr with
  | ok o fr1 =>
    show bndO (bnd (opds [y]) (fun os => ret (o :: os)) fr1) k = bndO (y.o fr1) fun p => k [o, p]
    rw [opds1]
    show bndO (bndO (y.o fr1) fun p => ret [o, p]) k = _
    cases y.o fr1 <;> rfl
  | ex _ _ => rfl
  | bad => rfl
theorem rdOs1 {α : Type} (o : Opd) (k : List D → M α) : bnd (rdOs [o]) k = bnd (rdO o) fun d => k [d] := by
  funext fr
  show bndO (bndO (rdO o fr) fun d => bnd (rdOs []) fun ds => ret (d :: ds)) k = bndO (rdO o fr) fun d => k [d]
  cases rdO o fr <;> rfl
theorem rdOs2 {α : Type} (o p : Opd) (k : List D → M α) : bnd (rdOs [o, p]) k = bnd (rdO o) fun d => bnd (rdO p) fun e => k [d, e] := by
  funext fr
  show bndO (bndO (rdO o fr) fun d => bnd (rdOs [p]) fun ds => ret (d :: ds)) k = bndO (rdO o fr) fun d => bnd (rdO p) fun e => k [d, e]
  cases rdO o fr with
  | ok d fr1 =>
    show bndO (bnd (rdOs [p]) (fun ds => ret (d :: ds)) fr1) k = bndO (rdO p fr1) fun e => k [d, e]
    rw [rdOs1]
    show bndO (bndO (rdO p fr1) fun e => ret [d, e]) k = _
    cases rdO p fr1 <;> rfl
  | ex _ _ => rfl
  | bad => rfl
theorem rg_reps {K : PySem.W.Frag} {H : Hp} {F : FS} : ∀ (n : Nat) (a : Int), Reps K H F ((List.range n).map fun i => V.int (a + (i : Nat))) (upto a n)
  | 0, _ => .nil
  | n + 1, a => by
    rw [List.range_succ_eq_map, List.map_cons, List.map_map, upto]
    have e : V.int (a + ((0 : Nat) : Int)) = V.int a := by congr 1; omega
    rw [e]
    refine .cons (.int a) ?_
    have := rg_reps (K := K) (H := H) (F := F) n (a + 1)
    have e2 : ((fun i => V.int (a + ((i : Nat) : Int))) ∘ Nat.succ) = fun (i : Nat) => V.int (a + 1 + (i : Int)) := by
      funext i
      show V.int (a + ((i + 1 : Nat) : Int)) = _
      congr 1; omega
    rw [e2]; exact this
abbrev lrngM (xs : List Ev) : M Slot := bnd (opds xs) fun os => bnd (rdOs os) fun ds => bnd (opt (rngI ds)) fun xs => if xs.length ≤ sizeLine then ret (.own xs) else bad
theorem lrng_end {σ : Sg} {H : Hp} {F : FS} {fr : Fr} {Q : VK} {a b : Int} (f : Fm X.K H F fr σ) (h1 : inRg a = true) (h2 : inRg b = true)
    (q : Fin X.K X.mg W (RS X.K) From σ H F fr ((if (upto a (b - a).toNat).length ≤ sizeLine then ret (.own (upto a (b - a).toNat)) else (bad : M Slot)) fr) Q) : RgOk a b ∧ ∀ p, H p = none → Q (.ref p) (upd H p (.lst (rgV a b))) := by
  split at q
  · rename_i c
    rw [upto_len] at c
    have g1 := inRg_ok h1
    have g2 := inRg_ok h2
    refine ⟨⟨g1.1, g1.2, g2.1, g2.2, by rw [sizeLine_eq] at c; exact c⟩, fun p hp => Prim.lst f.ft (Fin.prim f q) (rg_reps _ a) hp⟩
  · exact q.elim
theorem inRg0 : inRg 0 = true := by decide
theorem sm_lrng1 {a : Expr} {x : Ev} {p p2 pos pos2 : Pos} (hc : X.calm = true) (hgl : Gl X "list") (hml : X.mg "list" = none) (hg : Gl X "range") (hm : X.mg "range" = none) (h : PE X a (mO X W x.o)) (hs : starEach [a] X.env = (false, eval a X.env) :: starEach [] X.env)
    (hs2 : starEach [.Call (.Name "range" p) [a] [] pos] X.env = (false, eval (.Call (.Name "range" p) [a] [] pos) X.env) :: starEach [] X.env) :
    PE X (.Call (.Name "list" p2) [.Call (.Name "range" p) [a] [] pos] [] pos2) (mV X W (lrngM [x])) := by
  refine PE_imp (pe_listRg hc hgl hml (prg_1 hg hm h hs) hs2) fun σ H Q ⟨F, fr, f, q⟩ => ⟨F, fr, f, ?_⟩
  unfold lrngM at q
  rw [opds1] at q
  refine Fin.bnd f ante_From _ _ q fun o v H1 F1 fr1 n1 r1 g1 q1 => ?_
  rw [rdOs1] at q1
  obtain ⟨d, rd, q2⟩ := Fin.rdO n1.fm r1 q1
  obtain ⟨xs, ex, q3⟩ := Fin.opt q2
  cases d with
  | int j =>
    obtain ⟨c, e⟩ := when_some (show when (inRg j) (upto 0 j.toNat) = some xs from ex)
    have e0 : upto 0 j.toNat = upto 0 (j - 0).toNat := by rw [Int.sub_zero]
    rw [← e, e0] at q3
    exact ⟨j, rb_int rd, lrng_end n1.fm inRg0 c q3⟩
  | _ => cases ex
theorem sm_lrng2 {a b : Expr} {x y : Ev} {p p2 pos pos2 : Pos} (hc : X.calm = true) (hgl : Gl X "list") (hml : X.mg "list" = none) (hg : Gl X "range") (hm : X.mg "range" = none) (h : PE X a (mO X W x.o)) (h' : PE X b (mO X W y.o)) (hs : starEach [a, b] X.env = (false, eval a X.env) :: starEach [b] X.env) (hsb : starEach [b] X.env = (false, eval b X.env) :: starEach [] X.env)
    (hp : (backTo pos (starEach [b] X.env)).any (·.1) = false) (hs2 : starEach [.Call (.Name "range" p) [a, b] [] pos] X.env = (false, eval (.Call (.Name "range" p) [a, b] [] pos) X.env) :: starEach [] X.env) :
    PE X (.Call (.Name "list" p2) [.Call (.Name "range" p) [a, b] [] pos] [] pos2) (mV X W (lrngM [x, y])) := by
  refine PE_imp (pe_listRg hc hgl hml (prg_2 hg hm h h' hs hsb hp) hs2) fun σ H Q ⟨F, fr, f, q⟩ => ⟨F, fr, f, ?_⟩
  unfold lrngM at q
  rw [opds2] at q
  refine Fin.bnd f ante_From _ _ q fun o v H1 F1 fr1 n1 r1 g1 q1 => ⟨F1, fr1, n1.fm, Fin.bnd n1.fm ante_From _ _ q1 fun o2 w H2 F2 fr2 n2 r2 g2 q2 => ?_⟩
  rw [rdOs2] at q2
  obtain ⟨d, rd, q3⟩ := Fin.rdO n2.fm (n2.ro n1.fm r1) q2
  obtain ⟨e, re, q4⟩ := Fin.rdO n2.fm r2 q3
  obtain ⟨xs, ex, q5⟩ := Fin.opt q4
  cases d with
  | int i =>
    cases e with
    | int j =>
      obtain ⟨c, e⟩ := when_some (show when (inRg i && inRg j) (upto i (j - i).toNat) = some xs from ex)
      rw [Bool.and_eq_true] at c
      rw [← e] at q5
      exact ⟨i, j, rb_int rd, rb_int re, lrng_end n2.fm c.1 c.2 q5⟩
    | _ => cases ex
  | _ => cases ex
end
end MP

/-! MP: zip of two rows, each a list or a tuple. -/
namespace MP
open PySem PySem.Spec PyProof.Rows L2
/-- a row: a tuple (true) or a list -/
def SqB (K : PySem.W.Frag) (b : Bool) (H : Hp) (a : Addr) (xs : List V) : Prop := if b then SqT K H a xs else SqL K H a xs
def HpB (b : Bool) (h : Heap) (a : Addr) (xs : Array Value) : Prop := if b then h.IsTuple a xs else h.IsList a xs
def ItB (b : Bool) (h : Heap) (it a : Addr) (i : Nat) : Prop := if b then h.IsTupleIter it a i else h.IsListIter it a i
def Itx (K : PySem.W.Frag) (p q : Bool) (a b : Addr) : It where
  go := fun i H => ∃ (xs ys : List V) (x y : V), SqB K p H a xs ∧ SqB K q H b ys ∧ xs[i]? = some x ∧ ys[i]? = some y
  yld := fun i H v H' => ∃ T x y, v = .ref T ∧ H T = none ∧ H' = upd H T (.tup [x, y]) ∧ (∀ xs, SqB K p H a xs → xs[i]? = some x) ∧ ∀ ys, SqB K q H b ys → ys[i]? = some y
  stop := fun i H => ∃ xs ys : List V, SqB K p H a xs ∧ SqB K q H b ys ∧ i ≤ xs.length ∧ i ≤ ys.length ∧ (i = xs.length ∨ i = ys.length)
section
variable {X : Cx} {pins : List (Addr × Obj)} {σ : Sg} {H : Hp} {s : Shared} {p q : Bool} {a b : Addr} {xs ys : List V}
theorem SqB.heap (I : Inv X pins σ H s) (h : SqB X.K p H a xs) : ∃ its : List Value, Vals xs its ∧ HpB p s.heap a its.toArray ∧ a < s.heap.objs.size := by
  cases p with
  | true =>
    obtain ⟨its, r, t, _⟩ := I.tuple (show SqT X.K H a xs from h)
    obtain ⟨o, ho, _⟩ := id t
    exact ⟨its, r, t, Heap.lt_size ho⟩
  | false =>
    obtain ⟨its, r, t, _⟩ := I.list (show SqL X.K H a xs from h)
    exact ⟨its, r, t.isList, t.lt⟩
theorem SqB.inj (I : Inv X pins σ H s) (h : SqB X.K p H a xs) (h2 : SqB X.K p H a ys) : xs = ys := by
  cases p with
  | true => exact I.tuple_inj (show SqT X.K H a xs from h) h2
  | false => exact I.list_inj (show SqL X.K H a xs from h) h2
end
section
variable {prog : Program} {w : World} {A : Around} {E : Value → Shared → Prop} {s : Shared}
theorem ItB.at {b : Bool} {h h' : Heap} {it a : Addr} {i : Nat} (t : ItB b h it a i) (k : ∀ o, h.get? it = some o → h'.get? it = some o) : ItB b h' it a i := by
  cases b with
  | true => exact Heap.IsTupleIter.at (show h.IsTupleIter it a i from t) k
  | false => exact Heap.IsListIter.at (show h.IsListIter it a i from t) k
theorem ItB.obj {b : Bool} {h : Heap} {it a : Addr} {i : Nat} (t : ItB b h it a i) : ∃ o, h.get? it = some o ∧ ∀ v, o.data ≠ .cell v := by
  cases b with
  | true => obtain ⟨o, ho, _, d⟩ := (show h.IsTupleIter it a i from t); exact ⟨o, ho, fun v z => by rw [d] at z; cases z⟩
  | false => obtain ⟨o, ho, _, d⟩ := (show h.IsListIter it a i from t); exact ⟨o, ho, fun v z => by rw [d] at z; cases z⟩
theorem draws_b (b : Bool) (hh : A.handled = none) (it a : Addr) (ne : a ≠ it) (xs : Array Value) : Draws prog w A it [it, a] xs.size (fun i v => xs[i]? = some v) (fun i h => ItB b h it a i ∧ HpB b h a xs) := by
  cases b with
  | true => exact Draws.tuple hh it a ne xs
  | false => exact Draws.list hh it a ne xs
/-- the iterator's object -/
def itObj (b : Bool) (a : Addr) : Obj := { cls := .type (if b then "tuple_iterator" else "list_iterator"), data := .fields #[.ref a, .int 0 0] }
abbrev zx1 (p : Bool) (h : Heap) (a : Addr) : Heap := h.push (itObj p a)
abbrev zx2 (p q : Bool) (h : Heap) (a b : Addr) : Heap := (zx1 p h a).push (itObj q b)
abbrev zx3 (p q : Bool) (h : Heap) (a b : Addr) : Heap := (zx2 p q h a b).push { cls := .type "tuple", data := .seq #[.ref h.objs.size, .ref (zx1 p h a).objs.size] }
abbrev zx4 (p q : Bool) (h : Heap) (a b : Addr) : Heap := (zx3 p q h a b).push { cls := .type "tuple", data := .seq #[.none, .none] }
abbrev zx5 (p q : Bool) (h : Heap) (a b : Addr) : Heap := (zx4 p q h a b).push { cls := .type "zip", data := .fields #[.none, .bool false, .bool false, .ref (zx2 p q h a b).objs.size, .ref (zx3 p q h a b).objs.size] }
theorem zx_new (p q : Bool) (a b : Addr) (xs ys : Array Value) : Meets (Builtin.«zip.__new__» ⟨[.type "zip", .ref a, .ref b], []⟩) (fun _ R s => HpB p s.heap a xs ∧ HpB q s.heap b ys ∧ R (.ok (.ret (.ref (zx4 p q s.heap a b).objs.size))) { s with heap := zx5 p q s.heap a b }) :=
  .of_wp fun prog w A R s h => by
    obtain ⟨hp, g, d, tk, os⟩ := s
    obtain ⟨ha, hb, h⟩ := h
    have sub := sub_zip
    cases p <;> cases q
    · have h1 : Heap.IsList (Shared.heap ⟨hp, g, d, tk, os⟩) a xs := ha
      have h2 : Heap.IsList (Shared.heap ⟨hp.push { cls := .type "list_iterator", data := .fields #[.ref a, .int 0 0] }, g, d, tk, os⟩) b ys := Heap.IsList.push hb _
      wp_walk using wpAny_pyIter_list h1, wpAny_pyIter_list h2
      exact ⟨_, rfl, h⟩
    · have h1 : Heap.IsList (Shared.heap ⟨hp, g, d, tk, os⟩) a xs := ha
      have h2 : Heap.IsTuple (Shared.heap ⟨hp.push { cls := .type "list_iterator", data := .fields #[.ref a, .int 0 0] }, g, d, tk, os⟩) b ys := Heap.IsTuple.push hb _
      wp_walk using wpAny_pyIter_list h1, wpAny_pyIter_tuple h2
      exact ⟨_, rfl, h⟩
    · have h1 : Heap.IsTuple (Shared.heap ⟨hp, g, d, tk, os⟩) a xs := ha
      have h2 : Heap.IsList (Shared.heap ⟨hp.push { cls := .type "tuple_iterator", data := .fields #[.ref a, .int 0 0] }, g, d, tk, os⟩) b ys := Heap.IsList.push hb _
      wp_walk using wpAny_pyIter_tuple h1, wpAny_pyIter_list h2
      exact ⟨_, rfl, h⟩
    · have h1 : Heap.IsTuple (Shared.heap ⟨hp, g, d, tk, os⟩) a xs := ha
      have h2 : Heap.IsTuple (Shared.heap ⟨hp.push { cls := .type "tuple_iterator", data := .fields #[.ref a, .int 0 0] }, g, d, tk, os⟩) b ys := Heap.IsTuple.push hb _
      wp_walk using wpAny_pyIter_tuple h1, wpAny_pyIter_tuple h2
      exact ⟨_, rfl, h⟩
theorem itB_new (b : Bool) {h : Heap} {it a : Addr} (e : h.get? it = some (itObj b a)) : ItB b h it a 0 := by
  cases b with
  | true => exact ⟨_, e, rfl, rfl⟩
  | false => exact ⟨_, e, rfl, rfl⟩
theorem call_zx {p q : Bool} {a b : Addr} {xs ys : Array Value} {Q : Value → Shared → Prop} (ha : HpB p s.heap a xs) (hb : HpB q s.heap b ys)
    (k : ∀ h', IsZip h' (s.heap.objs.size + 4) (s.heap.objs.size + 2) (s.heap.objs.size + 3) .none ∧ IsPair h' (s.heap.objs.size + 2) (.ref s.heap.objs.size) (.ref (s.heap.objs.size + 1)) ∧ IsPair h' (s.heap.objs.size + 3) .none .none ∧ ItB p h' s.heap.objs.size a 0 ∧ ItB q h' (s.heap.objs.size + 1) b 0 →
      (∀ c o, s.heap.get? c = some o → h'.get? c = some o) → Q (.ref (s.heap.objs.size + 4)) { s with heap := h' }) :
    wpAny (model prog w) A (call (.type "zip") [.ref a, .ref b]) Q E s := by
  refine callType_new F.called_zip (by decide) (F.typeCall_zip_2 _ _) (F.newCall_zip_2 _ _) (fun obj => F.args_object_init_3 obj _ _) F.entry_zip_new (zx_new p q a b xs ys) ⟨ha, hb, ?_⟩
  have s1 : (zx1 p s.heap a).objs.size = s.heap.objs.size + 1 := Heap.size_push ..
  have s2 : (zx2 p q s.heap a b).objs.size = s.heap.objs.size + 2 := (Heap.size_push ..).trans (congrArg (· + 1) s1)
  have s3 : (zx3 p q s.heap a b).objs.size = s.heap.objs.size + 3 := (Heap.size_push ..).trans (congrArg (· + 1) s2)
  have s4 : (zx4 p q s.heap a b).objs.size = s.heap.objs.size + 4 := (Heap.size_push ..).trans (congrArg (· + 1) s3)
  have up1 : ∀ {h : Heap} {o o2 : Obj} {c : Addr}, h.get? c = some o → (h.push o2).get? c = some o := fun e => Heap.get?_push_of_some _ e
  have f5 : (zx5 p q s.heap a b).get? (zx4 p q s.heap a b).objs.size = some _ := Heap.get?_push_size _ rfl
  have f4 : (zx5 p q s.heap a b).get? (zx3 p q s.heap a b).objs.size = some _ := up1 (Heap.get?_push_size _ rfl)
  have f3 : (zx5 p q s.heap a b).get? (zx2 p q s.heap a b).objs.size = some _ := up1 (up1 (Heap.get?_push_size _ rfl))
  have f2 : (zx5 p q s.heap a b).get? (zx1 p s.heap a).objs.size = some (itObj q b) := up1 (up1 (up1 (Heap.get?_push_size _ rfl)))
  have f1 : (zx5 p q s.heap a b).get? s.heap.objs.size = some (itObj p a) := up1 (up1 (up1 (up1 (Heap.get?_push_size _ rfl))))
  show _ ∧ _
  rw [s2, s3, s4] at f5
  rw [s1, s2] at f3
  rw [s3] at f4
  rw [s1] at f2
  rw [s4]
  exact ⟨⟨_, f5, rfl⟩, k _ ⟨f5, f3, f4, itB_new p f1, itB_new q f2⟩ fun c o e => up1 (up1 (up1 (up1 (up1 e))))⟩
end
/-- one turn of zip -/
theorem turn_zx {P : Program} {w : World} {K : PySem.W.Frag} {elts : List Expr} {kk : Nat} {tpos : Pos} {p q : Bool} {a b z TI TO i1 i2 : Addr} (D : ZipApart z TI TO i1 i2 a b) :
    Turn P w K (.Tuple elts kk tpos) (Itx K p q a b) [z, TI, TO, i1, i2] z (fun i h => IsZip h z TI TO .none ∧ IsPair h TI (.ref i1) (.ref i2) ∧ (∃ x y, IsPair h TO x y) ∧ ItB p h i1 a i ∧ ItB q h i2 b i) where
  mem := List.mem_cons_self
  obj := fun i h st c hc => by
    obtain ⟨hz, hI, ⟨x, y, hO⟩, h1, h2⟩ := st
    have : c = z ∨ c = TI ∨ c = TO ∨ c = i1 ∨ c = i2 := by simpa using hc
    rcases this with rfl | rfl | rfl | rfl | rfl
    · exact ⟨_, hz, fun v e => nomatch e⟩
    · exact ⟨_, hI, fun v e => nomatch e⟩
    · exact ⟨_, hO, fun v e => nomatch e⟩
    · exact h1.obj
    · exact h2.obj
  keep := fun i h h' st k => by
    obtain ⟨hz, hI, ⟨x, y, hO⟩, h1, h2⟩ := st
    have in5 : ∀ c, c = z ∨ c = TI ∨ c = TO ∨ c = i1 ∨ c = i2 → c ∈ [z, TI, TO, i1, i2] := fun c e => by simpa using e
    exact ⟨k z (in5 _ (by simp)) _ hz, k TI (in5 _ (by simp)) _ hI, ⟨x, y, k TO (in5 _ (by simp)) _ hO⟩, h1.at (k i1 (in5 _ (by simp))), h2.at (k i2 (in5 _ (by simp)))⟩
  item := by
    intro X eP ew eK calm i pins s σ H E I free st hg
    subst eP ew eK
    obtain ⟨hz, hI, ⟨x0, y0, hO⟩, h1, h2⟩ := st
    obtain ⟨xs, ys, x, y, qx, qy, hx, hy⟩ := hg
    obtain ⟨us, ru, pu, _⟩ := qx.heap I
    obtain ⟨vs, rv, pv, _⟩ := qy.heap I
    obtain ⟨u, hu, rxu⟩ := ru.get hx
    obtain ⟨v, hv, ryv⟩ := rv.get hy
    have zl : z < s.heap.objs.size := Heap.lt_size hz
    have hh : X.A.in1.handled = none := I.ok.hd calm
    have Sp : ZipSep2 z TI TO i1 i2 [i1, a] [i2, b] := ⟨D.TIz, D.TOz, D.TITO, D.TIi1, by simp, by simp [D.i1z.symm, D.l1z.symm], by simp [D.TOi1, D.l1TO.symm], D.TIi2, by simp, by simp [D.i2z.symm, D.l2z.symm], by simp [D.TOi2, D.l2TO.symm], by simp [D.i12, D.l2i1.symm], by simp [D.i12.symm, D.l1i2.symm]⟩
    refine wpAny_pyNext_zipD2_item Sp (draws_b p hh i1 a D.l1i1 us.toArray) (draws_b q hh i2 b D.l2i2 vs.toArray) hz hI hO ⟨h1, pu⟩ ⟨h2, pv⟩ (by rw [List.size_toArray]; exact (List.getElem?_eq_some_iff.mp hu).1) (by rw [List.size_toArray]; exact (List.getElem?_eq_some_iff.mp hv).1) fun x1 x2 h' tk e1 e2 z' O' n1 n2 hT hsz hk => ?_
    have g1 : x1 = u := by have e1 : us.toArray[i]? = some x1 := e1; rw [List.getElem?_toArray, hu] at e1; exact (Option.some.inj e1).symm
    have g2 : x2 = v := by have e2 : vs.toArray[i]? = some x2 := e2; rw [List.getElem?_toArray, hv] at e2; exact (Option.some.inj e2).symm
    subst g1 g2
    refine ⟨_, rfl, wpAny_letOwnedTupleGo_zip (s := { s with heap := h', toks := tk }) z' fun h'' z'' sb => ?_⟩
    have nz : s.heap.objs.size ≠ z := Nat.ne_of_gt zl
    have hT2 : h''.get? s.heap.objs.size = some { cls := .type "tuple", data := .seq #[x1, x2] } := (sb.2 _ nz).trans hT
    have fresh : ObjOk X.prog X.w (upd H s.heap.objs.size (.tup [x, y])) h'' s.heap.objs.size (.tup [x, y]) := ⟨by show 2 ≤ sizeLine; decide, [x1, x2], .cons rxu (.cons ryv .nil), ⟨_, hT2, rfl, _, rfl⟩⟩
    have kept : ∀ c o, c ∉ [z, TI, TO, i1, i2] → s.heap.get? c = some o → h''.get? c = some o := fun c o nc e => by
      have nc : c ≠ z ∧ c ≠ TI ∧ c ≠ TO ∧ c ≠ i1 ∧ c ≠ i2 := by simpa using nc
      exact (sb.2 c nc.1).trans (hk c o nc.1 nc.2.2.1 nc.2.2.2.1 nc.2.2.2.2 e)
    have J : Inv X pins σ (upd H s.heap.objs.size (.tup [x, y])) { s with heap := h'', toks := tk } := I.turnedNew (t' := tk) (ch := [z, TI, TO, i1, i2]) kept free (Nat.le_refl _) fresh
    refine ⟨.ref s.heap.objs.size, _, J, rfl, ⟨_, x, y, rfl, I.hok.fresh (Nat.le_refl _), rfl, fun l hl => by rw [hl.inj I qx]; exact hx, fun l hl => by rw [hl.inj I qy]; exact hy⟩, ⟨z'', (sb.2 _ D.TIz).trans (hk _ _ D.TIz D.TITO D.TIi1 D.TIi2 hI), ⟨x1, x2, (sb.2 _ D.TOz).trans O'⟩, n1.1.at fun o e => (sb.2 _ D.i1z).trans e, n2.1.at fun o e => (sb.2 _ D.i2z).trans e⟩, fun c hc => ?_⟩
    have lt : c < s.heap.objs.size := by
      have : c = z ∨ c = TI ∨ c = TO ∨ c = i1 ∨ c = i2 := by simpa using hc
      rcases this with rfl | rfl | rfl | rfl | rfl
      · exact zl
      · exact Heap.lt_size hI
      · exact Heap.lt_size hO
      · obtain ⟨o, e, _⟩ := h1.obj; exact Heap.lt_size e
      · obtain ⟨o, e, _⟩ := h2.obj; exact Heap.lt_size e
    rw [upd_ne (Nat.ne_of_lt lt)]
    exact (free c hc).1
  done := by
    intro X eP ew eK calm i pins s σ H E I free st hg
    subst eP ew eK
    obtain ⟨hz, hI, ⟨x0, y0, hO⟩, h1, h2⟩ := st
    obtain ⟨xs, ys, qx, qy, l1, l2, hend⟩ := hg
    obtain ⟨us, ru, pu, _⟩ := qx.heap I
    obtain ⟨vs, rv, pv, _⟩ := qy.heap I
    have hh : X.A.in1.handled = none := I.ok.hd calm
    have e1 := ru.length
    have e2 := rv.length
    have Sp : ZipSep2 z TI TO i1 i2 [i1, a] [i2, b] := ⟨D.TIz, D.TOz, D.TITO, D.TIi1, by simp, by simp [D.i1z.symm, D.l1z.symm], by simp [D.TOi1, D.l1TO.symm], D.TIi2, by simp, by simp [D.i2z.symm, D.l2z.symm], by simp [D.TOi2, D.l2TO.symm], by simp [D.i12, D.l2i1.symm], by simp [D.i12.symm, D.l1i2.symm]⟩
    refine wpAny_pyNext_zipD2_end Sp (draws_b p hh i1 a D.l1i1 us.toArray) (draws_b q hh i2 b D.l2i2 vs.toArray) hz hI hO ⟨h1, pu⟩ ⟨h2, pv⟩ (by rw [List.size_toArray]; omega) (by rw [List.size_toArray]; omega) (by rw [List.size_toArray, List.size_toArray]; omega) fun h' tk hk => ⟨rfl, I.turnedL (t' := tk) (ch := [z, TI, TO, i1, i2]) (fun c o nc e => ?_) free⟩
    have nc : c ≠ z ∧ c ≠ TI ∧ c ≠ TO ∧ c ≠ i1 ∧ c ≠ i2 := by simpa using nc
    exact hk c o nc.1 nc.2.2.1 nc.2.2.2.1 nc.2.2.2.2 e
  self := fun A i s Q E st h => wpAny_pyIter_zip st.1 h
def iZx (K : PySem.W.Frag) (ta : TA) : TI := fun σ H R => ta σ H fun vs H1 => ∃ p q a b xs ys, vs = [.ref a, .ref b] ∧ SqB K p H1 a xs ∧ SqB K q H1 b ys ∧ R (Itx K p q a b) H1
theorem pi_zx {X : Cx} {e e2 : Expr} {ta : TA} {p pos tpos : Pos} {elts : List Expr} {kk : Nat} (hg : Gl X "zip") (hm : X.mg "zip" = none) (ha : PA X [e, e2] ta) (hs : starEach [e, e2] X.env = (false, eval e X.env) :: starEach [e2] X.env) (hp : (backTo pos (starEach [e2] X.env)).any (·.1) = false) :
    PI X (.Tuple elts kk tpos) (.Call (.Name "zip" p) [e, e2] [] pos) (iZx X.K ta) := by
  constructor
  intro pins s σ H R I h
  refine Call_ (ld_blt I hg hm PyProof.Rows.boot_zip (PyProof.Rows.callWith_type1 (thn (ha.run pos pins s σ H _ I h) fun us s1 got => ?_) hs hp))
  obtain ⟨vs, H1, I1, r1, p, q, a, b, xs, ys, rfl, qx, qy, go⟩ := got
  match r1 with
  | .cons (a := _) ra (.cons rb .nil) =>
    cases ra
    cases rb
    obtain ⟨us, _, pu, la⟩ := qx.heap I1
    obtain ⟨vs, _, pv, lb⟩ := qy.heap I1
    refine call_zx pu pv fun h' ⟨hz, hI, hO, h1, h2⟩ hk => wpAny_pyIter_zip hz ?_
    have I2 : Inv X pins σ H1 { s1 with heap := h' } := I1.kept (t' := s1.toks) hk
    refine ⟨s1.heap.objs.size + 4, [s1.heap.objs.size + 4, s1.heap.objs.size + 2, s1.heap.objs.size + 3, s1.heap.objs.size, s1.heap.objs.size + 1], _, _, H1, rfl, I2, turn_zx (PySem.W.ktu_apart s1.heap.objs.size a b la lb), ⟨hz, hI, ⟨_, _, hO⟩, h1, h2⟩, fun c hc => ?_, go⟩
    have le : s1.heap.objs.size ≤ c := by
      have : c = s1.heap.objs.size + 4 ∨ c = s1.heap.objs.size + 2 ∨ c = s1.heap.objs.size + 3 ∨ c = s1.heap.objs.size ∨ c = s1.heap.objs.size + 1 := by simpa using hc
      rcases this with e | e | e | e | e
      · rw [e]; exact Nat.le_add_right s1.heap.objs.size 4
      · rw [e]; exact Nat.le_add_right s1.heap.objs.size 2
      · rw [e]; exact Nat.le_add_right s1.heap.objs.size 3
      · rw [e]; exact Nat.le_refl _
      · rw [e]; exact Nat.le_add_right s1.heap.objs.size 1
    exact I1.fpOk le (I1.hok.fresh le)

section
variable {K : PySem.W.Frag} {H : Hp} {F : FS} {v u : V} {d e : D} {ds es : List D}
theorem row_rep (r : Rep K H F v d) (h : rowOf d = some ds) : ∃ a vs p, v = .ref a ∧ Reps K H F vs ds ∧ ∀ (H' : Hp) (F' : FS), (∀ c, F c → F' c) → (∀ c, F c → H' c = H c) → SqB K p H' a vs := by
  cases r with
  | lst l q =>
    cases h
    exact ⟨_, _, false, rfl, q, fun H' F' hs hk => SqL.of ((hk _ l.1).trans l.2)⟩
  | tup t q =>
    cases h
    exact ⟨_, _, true, rfl, q, fun H' F' hs hk => (t.mono hs hk).sqt⟩
  | _ => cases h
theorem wk_zx {a b : Addr} {vs ws : List V} {p q : Bool} (ra : Reps K H F vs ds) (rb : Reps K H F ws es) (ha : ∀ (H' : Hp) (F' : FS), (∀ c, F c → F' c) → (∀ c, F c → H' c = H c) → SqB K p H' a vs) (hb : ∀ (H' : Hp) (F' : FS), (∀ c, F c → F' c) → (∀ c, F c → H' c = H c) → SqB K q H' b ws) :
    Wk K H F (zip2I ds es) (Itx K p q a b) (fun _ => False) := by
  intro H' F' _ hs hk ft
  have ea := ha H' F' hs hk
  have eb := hb H' F' hs hk
  have ra' := ra.mono hs hk
  have rb' := rb.mono hs hk
  have la := ra.length
  have lb := rb.length
  refine ⟨fun i hi => ?_, ⟨vs, ws, ea, eb, by rw [zip2_len]; omega, by rw [zip2_len]; omega, by rw [zip2_len]; omega⟩, fun i x H'' hi hy => ?_⟩
  · rw [zip2_len] at hi
    obtain ⟨x, ex, _⟩ := ra'.get (List.getElem?_eq_getElem (show i < ds.length by omega))
    obtain ⟨y, ey, _⟩ := rb'.get (List.getElem?_eq_getElem (show i < es.length by omega))
    exact ⟨vs, ws, x, y, ea, eb, ex, ey⟩
  · obtain ⟨T, x1, y1, rfl, hT, e, h1, h2⟩ := hy
    obtain ⟨d1, ed1, r1⟩ := ra'.getV (h1 vs ea)
    obtain ⟨d2, ed2, r2⟩ := rb'.getV (h2 ws eb)
    obtain ⟨F'', g, rr⟩ := grow_pair ft hT e (.cons r1 (.cons r2 .nil))
    exact ⟨_, F'', zip2_get ds es i d1 d2 ed1 ed2, g, rr⟩
end
section
variable {X : Cx} {W : WX}
theorem sm_zip {a b : Expr} {x y : Ev} {p pos tpos : Pos} {elts : List Expr} {kk : Nat} (hg : Gl X "zip") (hm : X.mg "zip" = none) (h : PA X [a, b] (mDs X W (vals [x, y]))) (hs : starEach [a, b] X.env = (false, eval a X.env) :: starEach [b] X.env) (hp : (backTo pos (starEach [b] X.env)).any (·.1) = false) :
    PI X (.Tuple elts kk tpos) (.Call (.Name "zip" p) [a, b] [] pos) (mI X W (bnd (vals [x, y]) fun ds => bnd (opt (zipV ds)) fun xs => ret (xs, []))) := by
  refine PI_imp (pi_zx hg hm h hs hp) fun σ H Q ⟨F, fr, f, q⟩ => ⟨F, fr, f, Fin.bnd f ante_GIt _ _ q fun ds vs H1 F1 fr1 n1 r1 g1 q1 => ?_⟩
  have r1 : Reps X.K H1 F1 vs ds := r1
  obtain ⟨xs, ex, q2⟩ := Fin.opt q1
  match ds, vs, r1, ex with
  | [d1, d2], _, .cons (v := v1) (vs := [v2]) ra (.cons rb .nil), ex =>
    have ex : (rowOf d1).bind (fun xs => (rowOf d2).map fun ys => zip2I xs ys) = some xs := ex
    cases e1 : rowOf d1 with
    | none => rw [e1] at ex; cases ex
    | some l1 =>
      cases e2 : rowOf d2 with
      | none => rw [e1, e2] at ex; cases ex
      | some l2 =>
        rw [e1, e2] at ex
        cases ex
        obtain ⟨a1, vs1, p1, rfl, s1, t1⟩ := row_rep ra e1
        obtain ⟨a2, vs2, p2, rfl, s2, t2⟩ := row_rep rb e2
        exact ⟨p1, p2, a1, a2, vs1, vs2, rfl, t1 H1 F1 (fun _ h => h) (fun _ _ => rfl), t2 H1 F1 (fun _ h => h) (fun _ _ => rfl), q2 _ H1 F1 (.refl n1.fm) ⟨⟨_, fun _ h => h.elim, wk_zx s1 s2 t1 t2⟩, fun i hi => (by cases hi)⟩ fun i hi => (by cases hi)⟩
end
end MP

/-! MP: enumerate of a list or a tuple. -/
namespace MP
open PySem PySem.Spec PyProof.Rows L2
theorem meets_enu_newT (l : Addr) (items : Array Value) :
    Meets (Builtin.«enumerate.__new__» ⟨[.type "enumerate", .ref l], []⟩) (fun _ R s => s.heap.IsTuple l items ∧
      R (.ok (.ret (.ref (s.heap.push { cls := .type "tuple_iterator", data := .fields #[.ref l, .int 0 0] }).objs.size)))
        { s with heap := (s.heap.push { cls := .type "tuple_iterator", data := .fields #[.ref l, .int 0 0] }).push { cls := .type "enumerate", data := .fields #[.none, .bool false, .ref s.heap.objs.size, rawInt 0, .none, .none] } }) :=
  .of_wp fun prog w A R s h => by
    obtain ⟨hp, g, d, tk, os⟩ := s; obtain ⟨hl, h⟩ := h
    have hsub := sub_enumerate
    have hL : Heap.IsTuple (Shared.heap ⟨hp, g, d, tk, os⟩) l items := hl
    wp_walk using wpAny_pyIter_tuple hL
    refine wpAny_stack_any fun st => wpAny_pure ?_
    split
    · rename_i c _ _ _ _ _
      cases (c == Value.type "enumerate")
      · wp_walk using wpAny_pyIter_tuple hL
        exact ⟨_, rfl, h⟩
      · wp_walk using wpAny_pyIter_tuple hL
        exact ⟨_, rfl, h⟩
    · wp_walk using wpAny_pyIter_tuple hL
      exact ⟨_, rfl, h⟩
section
variable {prog : Program} {w : World} {A : Around} {E : Value → Shared → Prop} {s : Shared}
theorem call_enu_tuple {l : Addr} {items : Array Value} {Q : Value → Shared → Prop} (hL : s.heap.IsTuple l items)
    (h : ∀ h', IsEnum h' (s.heap.objs.size + 1) s.heap.objs.size 0 .none → h'.IsTupleIter s.heap.objs.size l 0 →
      (∀ b o, s.heap.get? b = some o → h'.get? b = some o) → Q (.ref (s.heap.objs.size + 1)) { s with heap := h' }) :
    wpAny (model prog w) A (call (.type "enumerate") [.ref l]) Q E s := by
  refine callType_new F.called_enumerate (by decide) (F.typeCall_enumerate_1 _) (F.newCall_enumerate_1 _) (fun obj => F.args_object_init_2 obj _) F.entry_enumerate_new
    (meets_enu_newT l items) ⟨hL, ?_⟩
  have hz : (s.heap.push { cls := .type "tuple_iterator", data := .fields #[.ref l, .int 0 0] }).objs.size = s.heap.objs.size + 1 := Heap.size_push ..
  show _ ∧ _
  rw [hz]
  have he : IsEnum ((s.heap.push { cls := .type "tuple_iterator", data := .fields #[.ref l, .int 0 0] }).push
      { cls := .type "enumerate", data := .fields #[.none, .bool false, .ref s.heap.objs.size, rawInt 0, .none, .none] }) (s.heap.objs.size + 1) s.heap.objs.size 0 .none := by
    have := Heap.get?_push_size (s.heap.push { cls := .type "tuple_iterator", data := .fields #[.ref l, .int 0 0] })
      (o := { cls := .type "enumerate", data := .fields #[.none, .bool false, .ref s.heap.objs.size, rawInt 0, .none, .none] }) rfl
    rw [hz] at this; exact this
  exact ⟨⟨_, he, rfl⟩, h _ he ⟨_, Heap.get?_push_of_some _ (Heap.get?_push_size _ rfl), rfl, rfl⟩ fun b o x => Heap.get?_push_of_some _ (Heap.get?_push_of_some _ x)⟩
theorem call_enu_b {p : Bool} {a : Addr} {items : Array Value} {Q : Value → Shared → Prop} (hL : HpB p s.heap a items)
    (h : ∀ h', IsEnum h' (s.heap.objs.size + 1) s.heap.objs.size 0 .none → ItB p h' s.heap.objs.size a 0 →
      (∀ b o, s.heap.get? b = some o → h'.get? b = some o) → Q (.ref (s.heap.objs.size + 1)) { s with heap := h' }) :
    wpAny (model prog w) A (call (.type "enumerate") [.ref a]) Q E s := by
  cases p with
  | true => exact call_enu_tuple (show s.heap.IsTuple a items from hL) fun h' e i k => h h' e i k
  | false => exact call_enumerate_list (show s.heap.IsList a items from hL) fun h' e i _ k => h h' e i k
end
def Iteb (K : PySem.W.Frag) (p : Bool) (a : Addr) : It where
  go := fun i H => ∃ (xs : List V) (x : V), SqB K p H a xs ∧ xs[i]? = some x
  yld := fun i H v H' => ∃ T x, v = .ref T ∧ H T = none ∧ H' = upd H T (.tup [.int (i : Nat), x]) ∧ ∀ xs, SqB K p H a xs → xs[i]? = some x
  stop := fun i H => ∃ xs : List V, SqB K p H a xs ∧ i = xs.length
theorem turn_enu {P : Program} {w : World} {K : PySem.W.Frag} {elts : List Expr} {kk : Nat} {tpos : Pos} {p : Bool} {a e it : Addr} (n1 : e ≠ it) (n2 : e ≠ a) (n3 : a ≠ it) :
    Turn P w K (.Tuple elts kk tpos) (Iteb K p a) [e, it] e (fun i h => (∃ old, IsEnum h e it ((i : Nat) : Int) old) ∧ ItB p h it a i) where
  mem := by simp
  obj := fun i h st b hb => by
    obtain ⟨⟨old, he⟩, hi⟩ := st
    have e' : b = e ∨ b = it := by simpa using hb
    rcases e' with z | z
    · rw [z]; exact ⟨_, he, fun v q => nomatch q⟩
    · rw [z]; exact hi.obj
  keep := fun i h h' st k => let ⟨⟨old, he⟩, hi⟩ := st; ⟨⟨old, k e (by simp) _ he⟩, hi.at fun o q => k it (by simp) o q⟩
  item := by
    intro X hP hw hK hc i pins s σ H E I hf st hg
    subst hP hw hK
    obtain ⟨⟨old, he⟩, hit⟩ := st
    obtain ⟨xs, x, hq, hx⟩ := hg
    obtain ⟨us, rv, pu, _⟩ := hq.heap I
    obtain ⟨u, hu, ru⟩ := rv.get hx
    have hel : e < s.heap.objs.size := Heap.lt_size he
    have hil : it < s.heap.objs.size := by obtain ⟨_, q, _⟩ := hit.obj; exact Heap.lt_size q
    have hh : X.A.in1.handled = none := I.ok.hd hc
    refine wpAny_pyNext_enum_itemD (draws_b p hh it a n3 us.toArray) he ⟨hit, pu⟩ (by rw [List.size_toArray]; exact (List.getElem?_eq_some_iff.mp hu).1) n1 (by simp [n1, n2]) fun u1 h' tk e1 ho st' hT hsz hk => ?_
    have g1 : u1 = u := by have e1 : us.toArray[i]? = some u1 := e1; rw [List.getElem?_toArray, hu] at e1; exact (Option.some.inj e1).symm
    subst g1
    refine ⟨_, rfl, wpAny_letOwnedTupleGo_enum (s := { s with heap := h', toks := tk + 1 }) ho fun h'' he' sb => ?_⟩
    have hT2 : h''.get? s.heap.objs.size = some { cls := .type "tuple", data := .seq #[.int i tk, u1] } := (sb.2 _ (Nat.ne_of_gt hel)).trans hT
    have new : ObjOk X.prog X.w (upd H s.heap.objs.size (.tup [.int (i : Nat), x])) h'' s.heap.objs.size (.tup [.int (i : Nat), x]) :=
      ⟨by show 2 ≤ sizeLine; decide, [.int i tk, u1], .cons ⟨_, rfl⟩ (.cons ru .nil), ⟨_, hT2, rfl, _, rfl⟩⟩
    have I1 : Inv X pins σ (upd H s.heap.objs.size (.tup [.int (i : Nat), x])) { s with heap := h'', toks := tk + 1 } :=
      I.turnedNew (t' := tk + 1) (ch := [e, it]) (fun b ob hb q => (sb.2 b (fun z => hb (by simp [z]))).trans (hk b ob (fun z => hb (by simp [z])) (fun z => hb (by simp [z])) q)) hf (Nat.le_refl _) new
    refine ⟨.ref s.heap.objs.size, _, I1, rfl, ⟨_, x, rfl, I.hok.fresh (Nat.le_refl _), rfl, fun ys hy => by rw [hy.inj I hq]; exact hx⟩, ⟨⟨u1, ?_⟩, st'.1.at fun o q => (sb.2 it (Ne.symm n1)).trans q⟩, fun b hb => ?_⟩
    · have e1 : ((i + 1 : Nat) : Int) = (i : Int) + 1 := by omega
      rw [e1]; exact he'
    · have hb' : b < s.heap.objs.size := by
        have e' : b = e ∨ b = it := by simpa using hb
        rcases e' with z | z
        · rw [z]; exact hel
        · rw [z]; exact hil
      rw [upd_ne (Nat.ne_of_lt hb')]
      exact (hf b hb).1
  done := by
    intro X hP hw hK hc i pins s σ H E I hf st hg
    subst hP hw hK
    obtain ⟨⟨old, he⟩, hit⟩ := st
    obtain ⟨xs, hq, hx⟩ := hg
    obtain ⟨us, rv, pu, _⟩ := hq.heap I
    obtain ⟨f0, f1, f2, f3, f4, f5⟩ := hf it (by simp)
    have hl := rv.length
    have hn : i = us.toArray.size := by rw [List.size_toArray]; omega
    have hh : X.A.in1.handled = none := I.ok.hd hc
    have st : ItB p s.heap it a us.toArray.size ∧ HpB p s.heap a us.toArray := ⟨by rw [← hn]; exact hit, pu⟩
    exact wpAny_pyNext_enum_endD (draws_b p hh it a n3 us.toArray) he st fun h' eb => ⟨rfl, I.turned (t' := s.toks) (fun b o hb q => eb b o hb q) f0 f1 f3 f4 f5⟩
  self := fun A i s Q E st h => let ⟨⟨_, he⟩, _⟩ := st; wpAny_pyIter_enum he h
def iEnub (K : PySem.W.Frag) (ta : TA) : TI := fun σ H R => ta σ H fun vs H1 => ∃ p a xs, vs = [.ref a] ∧ SqB K p H1 a xs ∧ R (Iteb K p a) H1
theorem pi_enu {X : Cx} {e : Expr} {ta : TA} {p pos tpos : Pos} {elts : List Expr} {kk : Nat} (hg : Gl X "enumerate") (hm : X.mg "enumerate" = none) (ha : PA X [e] ta) (hs : starEach [e] X.env = [(false, eval e X.env)] := by rfl) :
    PI X (.Tuple elts kk tpos) (.Call (.Name "enumerate" p) [e] [] pos) (iEnub X.K ta) := by
  refine ⟨fun pins s σ H R I h => ?_⟩
  refine Call_ (ld_blt I hg hm boot_enumerate (PyProof.Rows.callWith_type1 (thn (ha.run pos pins s σ H _ I h) fun us s1 ⟨vs, H1, I1, r1, q1⟩ => ?_) hs rfl))
  obtain ⟨p, a, xs, ex, hq, q⟩ := q1
  subst ex
  cases r1 with
  | cons r rr =>
    cases rr
    cases r
    obtain ⟨its, rv, pu, la⟩ := hq.heap I1
    refine call_enu_b pu fun h' he hit hk => wpAny_pyIter_enum he ?_
    have I2 : Inv X pins σ H1 { s1 with heap := h' } := I1.kept (t' := s1.toks) hk
    refine ⟨s1.heap.objs.size + 1, [s1.heap.objs.size + 1, s1.heap.objs.size], _, _, H1, rfl, I2, turn_enu (p := p) (a := a) (Nat.succ_ne_self _) (Nat.ne_of_gt (Nat.lt_succ_of_lt la)) (Nat.ne_of_lt la), ⟨⟨.none, he⟩, hit⟩, fun b hb => ?_, q⟩
    have e' : b = s1.heap.objs.size + 1 ∨ b = s1.heap.objs.size := by simpa using hb
    have hle : s1.heap.objs.size ≤ b := by
      rcases e' with z | z
      · rw [z]; exact Nat.le_add_right _ _
      · rw [z]; exact Nat.le_refl _
    exact I1.fpOk hle (I1.hok.fresh hle)
section
variable {K : PySem.W.Frag} {H : Hp} {F : FS} {ds : List D} {vs : List V} {a : Addr} {p : Bool} {A : Addr → Prop}
theorem wk_enu2 (r : Reps K H F vs ds) (ha : ∀ (H' : Hp) (F' : FS), (∀ c, A c → H' c = H c) → (∀ c, F c → F' c) → (∀ c, F c → H' c = H c) → SqB K p H' a vs) : Wk K H F (enuI 0 ds) (Iteb K p a) A := by
  intro H' F' hA hs hk ft
  have e := ha H' F' hA hs hk
  have r' := r.mono hs hk
  refine ⟨fun i hi => ?_, ⟨vs, e, by rw [r.length, enuI_len]⟩, fun i x H'' hi hy => ?_⟩
  · rw [enuI_len] at hi
    obtain ⟨v, ev, _⟩ := r'.get (List.getElem?_eq_getElem hi)
    exact ⟨vs, v, e, ev⟩
  · obtain ⟨T, y, rfl, hn, hH, h2⟩ := hy
    obtain ⟨d, ed, rd⟩ := r'.getV (h2 vs e)
    obtain ⟨F'', g, rr⟩ := grow_pair (K := K) (xs := [.int (i : Nat), d]) ft hn hH (.cons (.int _) (.cons rd .nil))
    refine ⟨_, F'', ?_, g, rr⟩
    rw [enuI_get ds 0 i d ed]
    congr 4; omega
end
section
variable {X : Cx} {W : WX}
theorem sm_enu {e : Expr} {o : M Opd} {p pos tpos : Pos} {elts : List Expr} {kk : Nat} (hg : Gl X "enumerate") (hm : X.mg "enumerate" = none) (h : PE X e (mO X W o)) (hs : starEach [e] X.env = [(false, eval e X.env)]) :
    PI X (.Tuple elts kk tpos) (.Call (.Name "enumerate" p) [e] [] pos) (mI X W (bnd o fun x => bnd (rdO x) fun d => if enuOk d then bnd (itO x) fun p => ret (enuI 0 p.1, p.2) else bad)) := by
  refine PI_imp (pi_enu hg hm (pa_cons h pa_nil hs) hs) fun σ H Q ⟨F, fr, f, q⟩ => ⟨F, fr, f, Fin.bnd f ante_GIt _ _ q fun x v H1 F1 fr1 n1 r1 g1 q1 => ?_⟩
  rcases rdO_or x fr1 with z | ⟨d, z⟩
  · unfold bnd at q1; rw [z] at q1; exact q1.elim
  · obtain ⟨_, rb⟩ := rdO_ok n1.fm r1 z
    unfold bnd at q1
    rw [z] at q1
    have q1 : Fin X.K X.mg W (RIt X.K) GIt σ H1 F1 fr1 ((if enuOk d then bnd (itO x) fun p => ret (enuI 0 p.1, p.2) else bad) fr1) Q := q1
    split at q1
    · rename_i c
      obtain ⟨d2, p, fr3, A, rb2, ed, es, n, _, s, hA, hl, hg, q2⟩ := itO_ok (P := fun o => Fin X.K X.mg W (RIt X.K) GIt σ H1 F1 fr1 o Q) id n1.fm r1 q1
      have e2 := ed d z
      subst e2
      cases s with
      | lst e h1 r =>
        cases es
        subst e
        exact ⟨false, _, _, rfl, SqL.of h1, q2 _ H1 F1 n ⟨⟨_, hA, wk_enu2 r fun H' F' hA' _ _ => SqL.of ((hA' _ rfl).trans h1)⟩, hl⟩ hg⟩
      | tup e h1 r =>
        cases es
        subst e
        exact ⟨true, _, _, rfl, h1.sqt, q2 _ H1 F1 n ⟨⟨_, hA, wk_enu2 r fun H' F' _ hs hk => (h1.mono hs hk).sqt⟩, hl⟩ hg⟩
      | _ => cases c
    · exact q1.elim
end
end MP

/-! MP: statements; what a loop stores. -/
namespace MP
open PySem PySem.Spec PyProof.Rows L2
/-- from one statement to another: slots may turn, but those of kp -/
structure Ns (K : PySem.W.Frag) (kp : Nat → Bool) (σ : Sg) (H : Hp) (F : FS) (fr : Fr) (σ' : Sg) (H' : Hp) (F' : FS) (fr' : Fr) : Prop where
  fm : Fm K H' F' fr' σ'
  sub : ∀ a, F a → F' a
  trk : ∀ a, H a ≠ none → H' a ≠ none
  keep : ∀ a, H a ≠ none → ¬ Own fr σ a → H' a = H a
  nof : ∀ a, H a ≠ none → ¬ Own fr σ a → ¬ Lok fr σ a → F' a → F a
  own : ∀ a, Own fr' σ' a → Own fr σ a ∨ H a = none
  lok : ∀ a, Lok fr' σ' a → Own fr σ a ∨ Lok fr σ a ∨ H a = none
  kpt : ∀ i, kp i = true → sv σ' i = sv σ i
  len : σ'.length = σ.length
  kown : ∀ i, kp i = true → (fr'.sl i).isOwn = true → (fr.sl i).isOwn = true
  khld : ∀ i, kp i = true → (fr'.sl i).isHeld = true → (fr.sl i).isHeld = true
section
variable {K : PySem.W.Frag} {kp : Nat → Bool} {H H1 H2 : Hp} {F F1 F2 : FS} {fr fr1 fr2 : Fr} {σ σ1 σ2 : Sg}
theorem Nx.ns (n : Nx K σ H F fr fr1 H1 F1) : Ns K kp σ H F fr σ H1 F1 fr1 := ⟨n.fm, n.sub, n.trk, n.keep, n.nof, fun a h => .inl (n.own a h), fun a h => (n.lok a h).elim .inl fun h => .inr (.inl h), fun _ _ => rfl, rfl, fun i _ => n.ownS i, fun i _ => n.hldS i⟩
theorem Ns.refl (f : Fm K H F fr σ) : Ns K kp σ H F fr σ H F fr := (Nx.refl f).ns
theorem Ns.trans (m : Ns K kp σ H F fr σ1 H1 F1 fr1) (n : Ns K kp σ1 H1 F1 fr1 σ2 H2 F2 fr2) : Ns K kp σ H F fr σ2 H2 F2 fr2 where
  fm := n.fm
  sub := fun a h => n.sub a (m.sub a h)
  trk := fun a h => n.trk a (m.trk a h)
  keep := fun a h o => (n.keep a (m.trk a h) fun o1 => (m.own a o1).elim o h).trans (m.keep a h o)
  nof := fun a h o l q => m.nof a h o l (n.nof a (m.trk a h) (fun o1 => (m.own a o1).elim o h) (fun l1 => (m.lok a l1).elim o fun z => z.elim l h) q)
  own := fun a h => (n.own a h).elim (m.own a) fun h1 => .inr (by
    by_cases q : H a = none
    · exact q
    · exact absurd h1 (m.trk a q))
  lok := fun a h => (n.lok a h).elim (fun h => (m.own a h).elim .inl fun h => .inr (.inr h)) fun z => z.elim (m.lok a) fun h1 => .inr (.inr (by
    by_cases q : H a = none
    · exact q
    · exact absurd h1 (m.trk a q)))
  kpt := fun i h => (n.kpt i h).trans (m.kpt i h)
  len := n.len.trans m.len
  kown := fun i h q => m.kown i h (n.kown i h q)
  khld := fun i h q => m.khld i h (n.khld i h q)
theorem Ns.frz (n : Ns K kp σ H F fr σ1 H1 F1 fr1) (f : Fm K H F fr σ) : ∀ a, F a → H1 a = H a := fun a h =>
  n.keep a (f.ft a h) fun o => (f.own o).2 h
theorem Ns.rep (n : Ns K kp σ H F fr σ1 H1 F1 fr1) (f : Fm K H F fr σ) {v : V} {d : D} (r : Rep K H F v d) : Rep K H1 F1 v d := r.mono n.sub (n.frz f)
theorem Ns.reps (n : Ns K kp σ H F fr σ1 H1 F1 fr1) (f : Fm K H F fr σ) {v : List V} {d : List D} (r : Reps K H F v d) : Reps K H1 F1 v d := r.mono n.sub (n.frz f)
theorem sv_set (σ : Sg) (i j : Nat) (v : Option V) : sv (σ.set i v) j = if i = j ∧ i < σ.length then v else sv σ j := by
  unfold sv
  rw [List.getElem?_set]
  by_cases h : i = j
  · subst h
    by_cases h2 : i < σ.length
    · simp [h2]
    · simp [h2]
  · simp [h]
/-- a name is stored: a value, or a new list -/
theorem Ns.store {i : Nat} {s : Slot} {v : V} {σ0 : Sg} {H0 : Hp} {F0 : FS} {fr0 : Fr} (n : Ns K kp σ0 H0 F0 fr0 σ H F fr) (hi : i < fr.length) (r : RS K σ H F fr s v) (hf : From σ0 H0 fr0 s v) (hk : kp i = false) : Ns K kp σ0 H0 F0 fr0 (σ.set i (some v)) H F (fr.set i s) := by
  have f := n.fm
  have hi2 : i < σ.length := by rw [← f.len]; exact hi
  have hso : SlotOk K H F s (some v) := by
    cases s with
    | un => trivial
    | val d => exact ⟨v, rfl, r⟩
    | own ds => obtain ⟨a, vs, rfl, h, q, nf, _⟩ := r; exact ⟨a, vs, rfl, h, q, nf⟩
    | lk _ => exact r.elim
  have nlk : s.isLk = false := by cases s <;> first | rfl | exact r.elim
  have snew : ∀ a, s.isHeld = true → v = .ref a → ¬ Own fr σ a ∧ ¬ Lok fr σ a := fun a hh e => by
    cases s with
    | own ds => obtain ⟨b, vs, e2, _, _, _, no, nl⟩ := r; rw [e] at e2; cases e2; exact ⟨no, nl⟩
    | lk _ => exact r.elim
    | un => cases hh
    | val _ => cases hh
  have at_i : ∀ j, j ≠ i → Fr.sl (fr.set i s) j = fr.sl j ∧ sv (σ.set i (some v)) j = sv σ j := fun j hj => ⟨sl_set_ne _ (Ne.symm hj) _, by rw [sv_set, if_neg (fun q => hj q.1.symm)]⟩
  have e_i : Fr.sl (fr.set i s) i = s ∧ sv (σ.set i (some v)) i = some v := ⟨sl_set_eq _ hi _, by rw [sv_set, if_pos ⟨rfl, hi2⟩]⟩
  have held : ∀ j a, (fr.sl j).isHeld = true → sv σ j = some (.ref a) → Own fr σ a ∨ Lok fr σ a := fun j a h e => by
    unfold Slot.isHeld at h
    rw [Bool.or_eq_true] at h
    exact h.elim (fun h => .inl ⟨j, h, e⟩) fun h => .inr ⟨j, h, e⟩
  refine ⟨⟨by rw [List.length_set, List.length_set]; exact f.len, fun j => ?_, fun j k a hj hk ej ek => ?_, f.ft⟩, n.sub, n.trk, n.keep, n.nof, fun a ⟨j, hj, ej⟩ => ?_, fun a ⟨j, hj, ej⟩ => ?_, fun j hj => ?_, List.length_set.trans n.len, fun j hj q => ?_, fun j hj q => ?_⟩
  · by_cases h : j = i
    · subst h; rw [e_i.1, e_i.2]; exact hso
    · rw [(at_i j h).1, (at_i j h).2]; exact f.rep j
  · by_cases h : j = i
    · by_cases h2 : k = i
      · rw [h, h2]
      · subst h
        rw [e_i.1] at hj; rw [e_i.2] at ej; rw [(at_i k h2).1] at hk; rw [(at_i k h2).2] at ek
        have q := snew a hj (Option.some.inj ej)
        exact ((held k a hk ek).elim q.1 q.2).elim
    · by_cases h2 : k = i
      · subst h2
        rw [e_i.1] at hk; rw [e_i.2] at ek; rw [(at_i j h).1] at hj; rw [(at_i j h).2] at ej
        have q := snew a hk (Option.some.inj ek)
        exact ((held j a hj ej).elim q.1 q.2).elim
      · rw [(at_i j h).1] at hj; rw [(at_i j h).2] at ej; rw [(at_i k h2).1] at hk; rw [(at_i k h2).2] at ek
        exact f.dis j k a hj hk ej ek
  · by_cases h : j = i
    · subst h
      rw [e_i.1] at hj; rw [e_i.2] at ej
      obtain ⟨ds, e⟩ := isOwn_iff.mp hj
      exact hf ds a e (Option.some.inj ej)
    · rw [(at_i j h).1] at hj; rw [(at_i j h).2] at ej; exact n.own a ⟨j, hj, ej⟩
  · by_cases h : j = i
    · subst h; rw [e_i.1, nlk] at hj; cases hj
    · rw [(at_i j h).1] at hj; rw [(at_i j h).2] at ej; exact n.lok a ⟨j, hj, ej⟩
  · by_cases h : j = i
    · subst h; rw [hk] at hj; cases hj
    · exact (at_i j h).2.trans (n.kpt j hj)
  · by_cases h : j = i
    · subst h; rw [hk] at hj; cases hj
    · rw [(at_i j h).1] at q; exact n.kown j hj q
  · by_cases h : j = i
    · subst h; rw [hk] at hj; cases hj
    · rw [(at_i j h).1] at q; exact n.khld j hj q
/-! ### targets -/
mutual
def Tg.vars : Tg → List Nat
  | .v i => [i]
  | .tup ts => Tg.varss ts
def Tg.varss : List Tg → List Nat
  | [] => []
  | t :: ts => t.vars ++ Tg.varss ts
end
/-- values are stored in names -/
structure Sto (K : PySem.W.Frag) (H : Hp) (F : FS) (vars : List Nat) (σ : Sg) (fr : Fr) (σ' : Sg) (fr' : Fr) : Prop where
  fm : Fm K H F fr' σ'
  own : ∀ a, Own fr' σ' a → Own fr σ a
  lok : ∀ a, Lok fr' σ' a → Lok fr σ a
  ownS : ∀ i, (fr'.sl i).isOwn = true → (fr.sl i).isOwn = true
  hldS : ∀ i, (fr'.sl i).isHeld = true → (fr.sl i).isHeld = true
  but : ∀ j, j ∉ vars → σ'[j]? = σ[j]?
  len : σ'.length = σ.length
theorem Sto.refl (f : Fm K H F fr σ) : Sto K H F [] σ fr σ fr := ⟨f, fun _ h => h, fun _ h => h, fun _ h => h, fun _ h => h, fun _ _ => rfl, rfl⟩
theorem Sto.trans {xs ys : List Nat} (a : Sto K H F xs σ fr σ1 fr1) (b : Sto K H F ys σ1 fr1 σ2 fr2) : Sto K H F (xs ++ ys) σ fr σ2 fr2 :=
  ⟨b.fm, fun x h => a.own x (b.own x h), fun x h => a.lok x (b.lok x h), fun i h => a.ownS i (b.ownS i h), fun i h => a.hldS i (b.hldS i h), fun j h => (b.but j fun q => h (List.mem_append_right _ q)).trans (a.but j fun q => h (List.mem_append_left _ q)), b.len.trans a.len⟩
theorem Sto.ns {xs : List Nat} (a : Sto K H F xs σ fr σ1 fr1) (hk : ∀ i ∈ xs, kp i = false) : Ns K kp σ H F fr σ1 H F fr1 :=
  ⟨a.fm, fun _ h => h, fun _ h => h, fun _ _ _ => rfl, fun _ _ _ _ h => h, fun x h => .inl (a.own x h), fun x h => .inr (.inl (a.lok x h)), fun i hi => by
    unfold sv
    rw [a.but i fun q => by rw [hk i q] at hi; cases hi], a.len, fun i _ => a.ownS i, fun i _ => a.hldS i⟩
theorem Sto.one {i : Nat} {v : V} {d : D} (f : Fm K H F fr σ) (hi : i < fr.length) (r : Rep K H F v d) : Sto K H F [i] σ fr (σ.set i (some v)) (fr.set i (.val d)) := by
  have n : Ns K (fun _ => false) σ H F fr (σ.set i (some v)) H F (fr.set i (.val d)) := Ns.store (Ns.refl f) hi r (fun ds a e => by cases e) rfl
  have e_i := sl_set_eq fr hi (.val d)
  refine ⟨n.fm, fun a ⟨j, hj, ej⟩ => ?_, fun a ⟨j, hj, ej⟩ => ?_, fun j hj => ?_, fun j hj => ?_, fun j hj => ?_, List.length_set⟩
  · by_cases h : j = i
    · subst h; rw [e_i] at hj; cases hj
    · rw [sl_set_ne _ (Ne.symm h)] at hj
      rw [sv_set, if_neg (fun q => h q.1.symm)] at ej
      exact ⟨j, hj, ej⟩
  · by_cases h : j = i
    · subst h; rw [e_i] at hj; cases hj
    · rw [sl_set_ne _ (Ne.symm h)] at hj
      rw [sv_set, if_neg (fun q => h q.1.symm)] at ej
      exact ⟨j, hj, ej⟩
  · by_cases h : j = i
    · subst h; rw [e_i] at hj; cases hj
    · rw [sl_set_ne _ (Ne.symm h)] at hj; exact hj
  · by_cases h : j = i
    · subst h; rw [e_i] at hj; cases hj
    · rw [sl_set_ne _ (Ne.symm h)] at hj; exact hj
  · exact List.getElem?_set_ne (fun e => hj (by simp [e]))
end
/-- the reading of a store -/
def mG (K : PySem.W.Frag) (m : D → M Unit) (vars : List Nat) : TG := fun v σ H Q => ∃ F fr d, Fm K H F fr σ ∧ Rep K H F v d ∧ match m d fr with
  | .ok _ fr' => ∀ σ', Sto K H F vars σ fr σ' fr' → Q σ' H
  | _ => False
def mGs (K : PySem.W.Frag) (m : List D → M Unit) (vars : List Nat) : TGs := fun vs σ H Q => ∃ F fr ds, Fm K H F fr σ ∧ Reps K H F vs ds ∧ match m ds fr with
  | .ok _ fr' => ∀ σ', Sto K H F vars σ fr σ' fr' → Q σ' H
  | _ => False
section
variable {X : Cx}
theorem PG_imp {e : Expr} {t t' : TG} (h : PG X e t) (i : ∀ v σ H Q, t' v σ H Q → t v σ H Q) : PG X e t' := ⟨fun pins s σ H v u Q I r q => h.run pins s σ H v u Q I r (i v σ H Q q)⟩
theorem PGs_imp {e : List Expr} {t t' : TGs} (h : PGs X e t) (i : ∀ v σ H Q, t' v σ H Q → t v σ H Q) : PGs X e t' := ⟨fun pins s σ H v u Q I r q => h.run pins s σ H v u Q I r (i v σ H Q q)⟩
theorem sm_gname {i : Nat} {e : Expr} (h : PG X e (gName i)) (hi : i < X.N.length) : PG X e (mG X.K (asgT (.v i)) (Tg.vars (.v i))) := by
  refine ⟨fun pins s σ H v u Q I r ⟨F, fr, d, f, rr, q⟩ => h.run pins s σ H v u Q I r ?_⟩
  exact q _ (Sto.one f (by rw [f.len, I.len]; exact hi) rr)
theorem sm_gnil : PGs X [] (mGs X.K (asgTs []) (Tg.varss [])) := by
  refine PGs_imp pgs_nil fun vs σ H Q ⟨F, fr, ds, f, rr, q⟩ => ?_
  cases rr with
  | nil => exact ⟨rfl, q _ (Sto.refl f)⟩
  | cons _ _ => exact q.elim
theorem sm_gcons {e : Expr} {es : List Expr} {t : Tg} {ts : List Tg} (h : PG X e (mG X.K (asgT t) t.vars)) (hr : PGs X es (mGs X.K (asgTs ts) (Tg.varss ts)))
    (hs : (assignEach (e :: es) X.env).map (·.2) = assign e X.env :: (assignEach es X.env).map (·.2)) : PGs X (e :: es) (mGs X.K (asgTs (t :: ts)) (Tg.varss (t :: ts))) := by
  refine PGs_imp (pgs_cons h hr hs) fun vs σ H Q ⟨F, fr, ds, f, rr, q⟩ => ?_
  cases rr with
  | nil => exact q.elim
  | @cons v vs d ds r rr =>
    refine ⟨v, vs, rfl, F, fr, d, f, r, ?_⟩
    simp only [asgTs, bnd] at q
    cases e1 : asgT t d fr with
    | bad => rw [e1] at q; exact q.elim
    | ex _ _ => rw [e1] at q; exact q.elim
    | ok u fr1 =>
      rw [e1] at q
      intro σ1 s1
      refine ⟨F, fr1, ds, s1.fm, rr, ?_⟩
      have q : match asgTs ts ds fr1 with
        | .ok _ fr' => ∀ σ', Sto X.K H F (Tg.varss (t :: ts)) σ fr σ' fr' → Q σ' H
        | _ => False := q
      cases e2 : asgTs ts ds fr1 with
      | bad => rw [e2] at q; exact q
      | ex _ _ => rw [e2] at q; exact q
      | ok u2 fr2 =>
        rw [e2] at q
        intro σ2 s2
        exact q σ2 (by rw [Tg.varss]; exact s1.trans s2)
theorem sm_gtup {es : List Expr} {k n : Nat} {pos : Pos} {ts : List Tg} (hc : X.calm = true) (h : PGs X es (mGs X.K (asgTs ts) (Tg.varss ts))) (hn : (assignEach es X.env).length = n) (hst : (assignEach es X.env).findIdx? (·.1) = none) (hl : ts.length = n) :
    PG X (.Tuple es k pos) (mG X.K (asgT (.tup ts)) (Tg.vars (.tup ts))) := by
  refine PG_imp (pg_tup hc h hn hst) fun v σ H Q ⟨F, fr, d, f, r, q⟩ => ?_
  have lens : ∀ (ts : List Tg) (ds : List D) (fr fr' : Fr) (u : Unit), asgTs ts ds fr = .ok u fr' → ts.length = ds.length := by
    intro ts
    induction ts with
    | nil => intro ds fr fr' u h; cases ds with | nil => rfl | cons _ _ => cases h
    | cons t ts ih =>
      intro ds fr fr' u h
      cases ds with
      | nil => cases h
      | cons d ds =>
        simp only [asgTs, bnd] at h
        cases e1 : asgT t d fr with
        | bad => rw [e1] at h; cases h
        | ex _ _ => rw [e1] at h; cases h
        | ok u1 fr1 =>
          rw [e1] at h
          simp [ih ds fr1 fr' u h]
  cases r with
  | @tup a vs ds t rr =>
    have q : match asgTs ts ds fr with
        | .ok _ fr' => ∀ σ', Sto X.K H F (Tg.varss ts) σ fr σ' fr' → Q σ' H
        | _ => False := q
    refine ⟨a, vs, rfl, t.sqt, ?_, F, fr, _, f, rr, q⟩
    cases e1 : asgTs ts ds fr with
    | bad => rw [e1] at q; exact q.elim
    | ex _ _ => rw [e1] at q; exact q.elim
    | ok u fr' => rw [rr.length, ← lens ts ds fr fr' u e1]; exact hl
  | _ => exact q.elim
end
end MP

/-! MP: locks undone; comprehensions. -/
namespace MP
open PySem PySem.Spec PyProof.Rows L2
section
variable {K : PySem.W.Frag} {kp : Nat → Bool} {H H0 H1 H2 : Hp} {F F0 F1 F2 : FS} {fr fr0 fr1 fr2 : Fr} {σ σ0 σ1 σ2 : Sg}
/-- one lock is undone -/
def unl (i : Nat) (fr : Fr) : Fr := match fr.sl i with
  | .lk xs => fr.set i (.own xs)
  | _ => fr
theorem unlk_cons (i : Nat) (r : List Nat) (fr : Fr) : unlk (i :: r) fr = unlk r (unl i fr) := rfl
theorem unl_sl (i j : Nat) (fr : Fr) : Fr.sl (unl i fr) j = fr.sl j ∨ (j = i ∧ ∃ xs, fr.sl j = .lk xs ∧ Fr.sl (unl i fr) j = .own xs) := by
  unfold unl
  cases y : fr.sl i with
  | lk xs =>
    show Fr.sl (fr.set i (.own xs)) j = _ ∨ (_ ∧ ∃ ys, _ ∧ Fr.sl (fr.set i (.own xs)) j = _)
    rw [sl_set]
    split
    · rename_i e; obtain ⟨rfl, _⟩ := e; exact .inr ⟨rfl, xs, y, rfl⟩
    · exact .inl rfl
  | _ => exact .inl rfl
theorem unl_len (i : Nat) (fr : Fr) : (unl i fr).length = fr.length := by
  unfold unl
  split
  · exact List.length_set
  · rfl
theorem unl_held (i j : Nat) (fr : Fr) : (Fr.sl (unl i fr) j).isHeld = (fr.sl j).isHeld := by
  rcases unl_sl i j fr with e | ⟨_, xs, e1, e2⟩
  · rw [e]
  · rw [e1, e2]; rfl
theorem Fm.unl (f : Fm K H F fr σ) (i : Nat) : Fm K H F (MP.unl i fr) σ := by
  refine ⟨by rw [unl_len]; exact f.len, fun j => ?_, fun j k a hj hk ej ek => f.dis j k a (by rw [← unl_held i]; exact hj) (by rw [← unl_held i]; exact hk) ej ek, f.ft⟩
  rcases unl_sl i j fr with e | ⟨_, xs, e1, e2⟩
  · rw [e]; exact f.rep j
  · have r := f.rep j
    rw [e1] at r; rw [e2]; exact r
theorem own_unl {i : Nat} {a : Addr} (h : Own (unl i fr) σ a) : Own fr σ a ∨ sv σ i = some (.ref a) := by
  obtain ⟨j, hj, ej⟩ := h
  rcases unl_sl i j fr with e | ⟨e, _⟩
  · rw [e] at hj; exact .inl ⟨j, hj, ej⟩
  · rw [← e]; exact .inr ej
theorem lok_unl {i : Nat} {a : Addr} (h : Lok (unl i fr) σ a) : Lok fr σ a := by
  obtain ⟨j, hj, ej⟩ := h
  rcases unl_sl i j fr with e | ⟨_, xs, _, e2⟩
  · rw [e] at hj; exact ⟨j, hj, ej⟩
  · rw [e2] at hj; cases hj
theorem Nx.unlk : ∀ {l : List Nat} {fr : Fr}, Nx K σ H0 F0 fr0 fr H F → (∀ i ∈ l, (fr0.sl i).isOwn = true) → Nx K σ H0 F0 fr0 (unlk l fr) H F
  | [], _, n, _ => n
  | i :: r, fr, n, h => by
    rw [unlk_cons]
    refine Nx.unlk (l := r) ⟨n.fm.unl i, n.sub, n.trk, n.keep, n.nof, fun j q => (unl_sl i j fr).elim (fun e => n.ownS j (by rw [← e]; exact q)) fun ⟨e, _⟩ => e ▸ h i (List.mem_cons_self), fun j q => n.hldS j (by rw [← unl_held i]; exact q)⟩ fun j hj => h j (List.mem_cons_of_mem _ hj)
theorem Ns.unlk : ∀ {l : List Nat} {fr : Fr}, Ns K kp σ0 H0 F0 fr0 σ H F fr → (∀ i ∈ l, (fr0.sl i).isOwn = true ∧ ∀ a, sv σ i = some (.ref a) → Own fr0 σ0 a ∨ H0 a = none) → Ns K kp σ0 H0 F0 fr0 σ H F (unlk l fr)
  | [], _, n, _ => n
  | i :: r, fr, n, h => by
    rw [unlk_cons]
    refine Ns.unlk (l := r) ⟨n.fm.unl i, n.sub, n.trk, n.keep, n.nof, fun a ⟨j, hj, ej⟩ => ?_, fun a q => n.lok a (lok_unl q), n.kpt, n.len, fun j hk q => (unl_sl i j fr).elim (fun e => n.kown j hk (by rw [← e]; exact q)) fun ⟨e, _⟩ => e ▸ (h i (List.mem_cons_self)).1, fun j hk q => n.khld j hk (by rw [← unl_held i]; exact q)⟩ fun j hj => h j (List.mem_cons_of_mem _ hj)
    · rcases unl_sl i j fr with e | ⟨e, xs, e1, _⟩
      · rw [e] at hj; exact n.own a ⟨j, hj, ej⟩
      · subst e; exact (h j List.mem_cons_self).2 a ej
/-! wiped slots -/
theorem sl_wipe : ∀ (own : List Nat) (fr : Fr) (j : Nat), Fr.sl (wipeF own fr) j = if j ∈ own then .un else fr.sl j
  | [], fr, j => by simp [wipeF]
  | i :: r, fr, j => by
    show Fr.sl ((wipeF r fr).set i .un) j = _
    rw [sl_set]
    have ih := sl_wipe r fr j
    by_cases h : i = j
    · subst h
      rw [if_pos (List.mem_cons_self)]
      split
      · rfl
      · rename_i h2
        have : ¬ i < (wipeF r fr).length := fun q => h2 ⟨rfl, q⟩
        unfold Fr.sl
        rw [List.getD_eq_getElem?_getD, List.getElem?_eq_none (by omega)]; rfl
    · rw [if_neg (fun q => h q.1), ih]
      have : j ∈ i :: r ↔ j ∈ r := by simp [Ne.symm h]
      simp only [this]
theorem len_wipe : ∀ (own : List Nat) (fr : Fr), (wipeF own fr).length = fr.length
  | [], _ => rfl
  | i :: r, fr => by show ((wipeF r fr).set i .un).length = _; rw [List.length_set, len_wipe r fr]
theorem sv_wipe : ∀ (own : List Nat) (σ : Sg) (j : Nat), sv (wipe σ own) j = if j ∈ own then none else sv σ j
  | [], σ, j => by simp [wipe]
  | i :: r, σ, j => by
    show sv ((wipe σ r).set i none) j = _
    rw [sv_set]
    have ih := sv_wipe r σ j
    by_cases h : i = j
    · subst h
      rw [if_pos (List.mem_cons_self)]
      split
      · rfl
      · rename_i h2
        have : ¬ i < (wipe σ r).length := fun q => h2 ⟨rfl, q⟩
        unfold sv
        rw [List.getElem?_eq_none (by omega)]; rfl
    · rw [if_neg (fun q => h q.1), ih]
      have : j ∈ i :: r ↔ j ∈ r := by simp [Ne.symm h]
      simp only [this]
theorem own_wipe {own : List Nat} {a : Addr} (h : Own (wipeF own fr) (wipe σ own) a) : ∃ i, i ∉ own ∧ (fr.sl i).isOwn = true ∧ sv σ i = some (.ref a) := by
  obtain ⟨j, hj, ej⟩ := h
  rw [sl_wipe] at hj
  rw [sv_wipe] at ej
  split at hj
  · cases hj
  · rename_i h; rw [if_neg h] at ej; exact ⟨j, h, hj, ej⟩
theorem lok_wipe {own : List Nat} {a : Addr} (h : Lok (wipeF own fr) (wipe σ own) a) : ∃ i, i ∉ own ∧ (fr.sl i).isLk = true ∧ sv σ i = some (.ref a) := by
  obtain ⟨j, hj, ej⟩ := h
  rw [sl_wipe] at hj
  rw [sv_wipe] at ej
  split at hj
  · cases hj
  · rename_i h; rw [if_neg h] at ej; exact ⟨j, h, hj, ej⟩
theorem Fm.wipe (f : Fm K H F fr σ) (own : List Nat) : Fm K H F (wipeF own fr) (L2.wipe σ own) := by
  have ld : ∀ j, (Fr.sl (wipeF own fr) j).isHeld = true → j ∉ own ∧ (fr.sl j).isHeld = true := fun j hj => by
    rw [sl_wipe] at hj
    split at hj
    · cases hj
    · rename_i h; exact ⟨h, hj⟩
  refine ⟨by rw [len_wipe, wipe_length]; exact f.len, fun j => ?_, fun j k a hj hk ej ek => ?_, f.ft⟩
  · rw [sl_wipe, sv_wipe]
    split
    · trivial
    · exact f.rep j
  · have h1 := ld j hj
    have h2 := ld k hk
    rw [sv_wipe, if_neg h1.1] at ej
    rw [sv_wipe, if_neg h2.1] at ek
    exact f.dis j k a h1.2 h2.2 ej ek
theorem sl_put : ∀ (own : List Nat) (old fr : Fr) (j : Nat), j < fr.length → Fr.sl (putF own old fr) j = if j ∈ own then old.sl j else fr.sl j
  | [], old, fr, j, _ => by simp [putF]
  | i :: r, old, fr, j, hj => by
    show Fr.sl ((putF r old fr).set i (old.sl i)) j = _
    have hl : (putF r old fr).length = fr.length := by
      have : ∀ (own : List Nat), (putF own old fr).length = fr.length := by
        intro own
        induction own with
        | nil => rfl
        | cons i r ih => show ((putF r old fr).set i _).length = _; rw [List.length_set, ih]
      exact this r
    rw [sl_set]
    have ih := sl_put r old fr j hj
    by_cases h : i = j
    · subst h
      rw [if_pos ⟨rfl, by omega⟩, if_pos List.mem_cons_self]
    · rw [if_neg (fun q => h q.1), ih]
      have : j ∈ i :: r ↔ j ∈ r := by simp [Ne.symm h]
      simp only [this]
theorem len_put : ∀ (own : List Nat) (old fr : Fr), (putF own old fr).length = fr.length
  | [], _, _ => rfl
  | i :: r, old, fr => by show ((putF r old fr).set i _).length = _; rw [List.length_set, len_put r]
theorem sl_big {j : Nat} (h : fr.length ≤ j) : fr.sl j = .un := by
  unfold Fr.sl
  rw [List.getD_eq_getElem?_getD, List.getElem?_eq_none h]; rfl
/-- behind a block: the slots that it had of its own are as they were -/
theorem Nx.put {own : List Nat} {frb : Fr} (f : Fm K H1 F1 fr1 σ) (n : Nx K (L2.wipe σ own) H1 F1 (wipeF own fr1) (wipeF own frb) H F) : Nx K σ H1 F1 fr1 (putF own fr1 frb) H F := by
  have hl : frb.length = fr1.length := by
    have := n.fm.len
    rw [len_wipe, wipe_length] at this
    rw [this, f.len]
  have slj : ∀ j, Fr.sl (putF own fr1 frb) j = if j ∈ own then fr1.sl j else frb.sl j := fun j => by
    by_cases h : j < frb.length
    · exact sl_put own fr1 frb j h
    · rw [sl_big (by rw [len_put]; omega), sl_big (fr := fr1) (by omega), sl_big (fr := frb) (by omega)]
      split <;> rfl
  have now : ∀ j a, j ∈ own → (fr1.sl j).isHeld = true → sv σ j = some (.ref a) → ¬ Own (wipeF own fr1) (L2.wipe σ own) a ∧ ¬ Lok (wipeF own fr1) (L2.wipe σ own) a := fun j a hj hh ej => by
    refine ⟨fun q => ?_, fun q => ?_⟩
    · obtain ⟨k, hk, ok, ek⟩ := own_wipe q
      have := f.dis j k a hh (by unfold Slot.isHeld; rw [ok]; rfl) ej ek
      subst this; exact hk hj
    · obtain ⟨k, hk, ok, ek⟩ := lok_wipe q
      have := f.dis j k a hh (by unfold Slot.isHeld; rw [ok, Bool.or_true]) ej ek
      subst this; exact hk hj
  have fz : ∀ a, F1 a → H a = H1 a := n.frz (f.wipe own)
  have ownb : ∀ j a, j ∉ own → (frb.sl j).isOwn = true → sv σ j = some (.ref a) → Own fr1 σ a := fun j a hj oj ej => by
    have := n.own a ⟨j, by rw [sl_wipe, if_neg hj]; exact oj, by rw [sv_wipe, if_neg hj]; exact ej⟩
    obtain ⟨k, _, ok, ek⟩ := own_wipe this
    exact ⟨k, ok, ek⟩
  have lokb : ∀ j a, j ∉ own → (frb.sl j).isLk = true → sv σ j = some (.ref a) → Own fr1 σ a ∨ Lok fr1 σ a := fun j a hj oj ej => by
    rcases n.lok a ⟨j, by rw [sl_wipe, if_neg hj]; exact oj, by rw [sv_wipe, if_neg hj]; exact ej⟩ with q | q
    · obtain ⟨k, _, ok, ek⟩ := own_wipe q
      exact .inl ⟨k, ok, ek⟩
    · obtain ⟨k, _, ok, ek⟩ := lok_wipe q
      exact .inr ⟨k, ok, ek⟩
  have heldb : ∀ j a, j ∉ own → (frb.sl j).isHeld = true → sv σ j = some (.ref a) → ∃ k, k ∉ own ∧ (fr1.sl k).isHeld = true ∧ sv σ k = some (.ref a) := fun j a hj hh ej => by
    unfold Slot.isHeld at hh
    rw [Bool.or_eq_true] at hh
    have go : Own (wipeF own fr1) (L2.wipe σ own) a ∨ Lok (wipeF own fr1) (L2.wipe σ own) a := by
      rcases hh with oj | oj
      · exact .inl (n.own a ⟨j, by rw [sl_wipe, if_neg hj]; exact oj, by rw [sv_wipe, if_neg hj]; exact ej⟩)
      · exact n.lok a ⟨j, by rw [sl_wipe, if_neg hj]; exact oj, by rw [sv_wipe, if_neg hj]; exact ej⟩
    rcases go with q | q
    · obtain ⟨k, hk, ok, ek⟩ := own_wipe q
      exact ⟨k, hk, by unfold Slot.isHeld; rw [ok]; rfl, ek⟩
    · obtain ⟨k, hk, ok, ek⟩ := lok_wipe q
      exact ⟨k, hk, by unfold Slot.isHeld; rw [ok, Bool.or_true], ek⟩
  refine ⟨⟨by rw [len_put, hl]; exact f.len, fun j => ?_, fun j k a hj hk ej ek => ?_, n.fm.ft⟩, n.sub, n.trk, fun a h o => n.keep a h fun q => o ?_, fun a h o l q => n.nof a h (fun q => o ?_) (fun q => l ?_) q, fun j hj => ?_, fun j hj => ?_⟩
  · rw [slj]
    split
    · rename_i hj
      have r := f.rep j
      cases y : fr1.sl j with
      | un => trivial
      | val d =>
        rw [y] at r
        obtain ⟨x, ex, r⟩ := r
        exact ⟨x, ex, r.mono n.sub fz⟩
      | own ds =>
        rw [y] at r
        obtain ⟨a, vs, ex, h, r, nf⟩ := r
        have q := now j a hj (by rw [y]; rfl) ex
        have ht : H1 a ≠ none := by rw [h]; (intro q; cases q)
        exact ⟨a, vs, ex, (n.keep a ht q.1).trans h, r.mono n.sub fz, fun z => nf (n.nof a ht q.1 q.2 z)⟩
      | lk ds =>
        rw [y] at r
        obtain ⟨a, vs, ex, h, r, nf⟩ := r
        have q := now j a hj (by rw [y]; rfl) ex
        have ht : H1 a ≠ none := by rw [h]; (intro q; cases q)
        exact ⟨a, vs, ex, (n.keep a ht q.1).trans h, r.mono n.sub fz, fun z => nf (n.nof a ht q.1 q.2 z)⟩
    · rename_i hj
      have r := n.fm.rep j
      rw [sl_wipe, sv_wipe, if_neg hj, if_neg hj] at r
      exact r
  · rw [slj] at hj hk
    by_cases h1 : j ∈ own
    · rw [if_pos h1] at hj
      by_cases h2 : k ∈ own
      · rw [if_pos h2] at hk; exact f.dis j k a hj hk ej ek
      · rw [if_neg h2] at hk
        obtain ⟨m, hm, om, em⟩ := heldb k a h2 hk ek
        have := f.dis j m a hj om ej em
        subst this; exact (hm h1).elim
    · rw [if_neg h1] at hj
      by_cases h2 : k ∈ own
      · rw [if_pos h2] at hk
        obtain ⟨m, hm, om, em⟩ := heldb j a h1 hj ej
        have := f.dis k m a hk om ek em
        subst this; exact (hm h2).elim
      · rw [if_neg h2] at hk
        exact n.fm.dis j k a (by rw [sl_wipe, if_neg h1]; exact hj) (by rw [sl_wipe, if_neg h2]; exact hk) (by rw [sv_wipe, if_neg h1]; exact ej) (by rw [sv_wipe, if_neg h2]; exact ek)
  · obtain ⟨k, _, ok, ek⟩ := own_wipe q; exact ⟨k, ok, ek⟩
  · obtain ⟨k, _, ok, ek⟩ := own_wipe q; exact ⟨k, ok, ek⟩
  · obtain ⟨k, _, ok, ek⟩ := lok_wipe q; exact ⟨k, ok, ek⟩
  · rw [slj] at hj
    split at hj
    · exact hj
    · rename_i h
      have := n.ownS j (by rw [sl_wipe, if_neg h]; exact hj)
      rw [sl_wipe, if_neg h] at this; exact this
  · rw [slj] at hj
    split at hj
    · exact hj
    · rename_i h
      have := n.hldS j (by rw [sl_wipe, if_neg h]; exact hj)
      rw [sl_wipe, if_neg h] at this; exact this
/-- an object of our own changes that nothing here knows -/
theorem Nx.poke {D : Addr} {o : HO} (n : Nx K σ H1 F1 fr1 fr H F) (f : Fm K H1 F1 fr1 σ) (hD : H1 D = none) (hF : ¬ F D) : Nx K σ H1 F1 fr1 fr (upd H D o) F := by
  have nown : ∀ a, Own fr σ a → a ≠ D := fun a h e => by
    obtain ⟨⟨vs, q⟩, _⟩ := f.own (n.own a h)
    rw [e, hD] at q; cases q
  have nlok : ∀ a, Lok fr σ a → a ≠ D := fun a h e => by
    rcases n.lok a h with h | h
    · obtain ⟨⟨vs, q⟩, _⟩ := f.own h
      rw [e, hD] at q; cases q
    · obtain ⟨⟨vs, q⟩, _⟩ := f.lok h
      rw [e, hD] at q; cases q
  have fz : ∀ a, F a → upd H D o a = H a := fun a h => upd_ne fun e => hF (by rw [← e]; exact h)
  have nD : ∀ a, H1 a ≠ none → upd H D o a = H a := fun a h => upd_ne fun e => h (by rw [e]; exact hD)
  refine ⟨⟨n.fm.len, fun j => ?_, n.fm.dis, fun a h => by rw [fz a h]; exact n.fm.ft a h⟩, n.sub, fun a h => by rw [nD a h]; exact n.trk a h, fun a h q => by rw [nD a h]; exact n.keep a h q, n.nof, n.ownS, n.hldS⟩
  have r := n.fm.rep j
  cases y : fr.sl j with
  | un => trivial
  | val d =>
    rw [y] at r
    obtain ⟨x, ex, r⟩ := r
    exact ⟨x, ex, r.mono (fun _ h => h) fz⟩
  | own ds =>
    rw [y] at r
    obtain ⟨a, vs, ex, h, r, nf⟩ := r
    exact ⟨a, vs, ex, by rw [upd_ne (nown a ⟨j, by rw [y]; rfl, ex⟩)]; exact h, r.mono (fun _ h => h) fz, nf⟩
  | lk ds =>
    rw [y] at r
    obtain ⟨a, vs, ex, h, r, nf⟩ := r
    exact ⟨a, vs, ex, by rw [upd_ne (nlok a ⟨j, by rw [y]; rfl, ex⟩)]; exact h, r.mono (fun _ h => h) fz, nf⟩
end
end MP

/-! MP: comprehensions. -/
namespace MP
open PySem PySem.Spec PyProof.Rows L2
theorem bnd_ok {α β : Type} {m : M α} {f : α → M β} {fr fr' : Fr} {b : β} (h : bnd m f fr = .ok b fr') : ∃ a fr1, m fr = .ok a fr1 ∧ f a fr1 = .ok b fr' := by
  unfold bnd at h
  cases e : m fr with
  | ok a fr1 => rw [e] at h; exact ⟨a, fr1, rfl, h⟩
  | ex _ _ => rw [e] at h; cases h
  | bad => rw [e] at h; cases h
def W0 : WX := fun _ _ _ _ => False
section
variable {K : PySem.W.Frag} {H H0 H1 H2 H3 : Hp} {F F0 F1 F2 F3 : FS} {fr fw fr1 fr2 fr3 frw : Fr} {σ σw σ2 : Sg}
/-- the state of a comprehension: what is made so far at da -/
def LcI (K : PySem.W.Frag) (σ : Sg) (vs : List Nat) (H1 : Hp) (F1 : FS) (fr1 : Fr) (da : Addr) (tot : List D) (frE : Fr) (go : List D → M (List D)) (items : List D) (i : Nat) (H : Hp) : Prop :=
  ∃ (F : FS) (frb : Fr) (acc rest : List D) (ws : List V), Nx K (L2.wipe σ vs) H1 F1 (wipeF vs fr1) (wipeF vs frb) H F ∧ H da = some (.lst ws) ∧ Reps K H F ws acc ∧ ¬ F da ∧ go (items.drop i) frb = .ok rest frE ∧ acc ++ rest = tot
/-- a turn's end: the block's names are forgotten -/
theorem Nx.back {vs vars : List Nat} (n : Nx K σw H1 F1 fw frw H2 F2) (f : Fm K H1 F1 fw σw) (st : Sto K H2 F2 vars σw frw σ2 fr2) (m : Nx K σ2 H2 F2 fr2 fr3 H3 F3) (hw : L2.wipe σ2 vs = σw) : Nx K σw H1 F1 fw (wipeF vs fr3) H3 F3 := by
  have own : ∀ a, Own fr2 σ2 a → Own fw σw a := fun a h => n.own a (st.own a h)
  have lok : ∀ a, Lok fr2 σ2 a → Own fw σw a ∨ Lok fw σw a := fun a h => n.lok a (st.lok a h)
  refine ⟨by have := m.fm.wipe vs; rw [hw] at this; exact this, fun a h => m.sub a (n.sub a h), fun a h => m.trk a (n.trk a h), fun a h o => (m.keep a (n.trk a h) fun q => o (own a q)).trans (n.keep a h o), fun a h o l q => n.nof a h o l (m.nof a (n.trk a h) (fun q => o (own a q)) (fun q => (lok a q).elim o l) q), fun j h => ?_, fun j h => ?_⟩
  · rw [sl_wipe] at h
    split at h
    · cases h
    · exact n.ownS j (st.ownS j (m.ownS j h))
  · rw [sl_wipe] at h
    split at h
    · cases h
    · exact n.hldS j (st.hldS j (m.hldS j h))
theorem wipe_get : ∀ (vs : List Nat) (σ : Sg) (j : Nat), (L2.wipe σ vs)[j]? = if j ∈ vs ∧ j < σ.length then some none else σ[j]?
  | [], σ, j => by simp [L2.wipe]
  | v :: vs, σ, j => by
    show ((L2.wipe σ vs).set v none)[j]? = _
    rw [List.getElem?_set, wipe_length, wipe_get vs σ j]
    by_cases h : v = j
    · subst h
      by_cases h2 : v < σ.length
      · simp [h2]
      · simp [h2]
    · have : j ∈ v :: vs ↔ j ∈ vs := by simp [Ne.symm h]
      simp only [this, if_neg h]
theorem wipe_sto {vs vars : List Nat} (st : Sto K H F vars (L2.wipe σ vs) fr σ2 fr2) (hv : ∀ i ∈ vars, i ∈ vs) : L2.wipe σ2 vs = L2.wipe σ vs := by
  apply List.ext_getElem?
  intro j
  have hl : σ2.length = σ.length := by rw [st.len, wipe_length]
  rw [wipe_get, wipe_get, hl]
  by_cases h : j ∈ vs
  · by_cases h2 : j < σ.length
    · rw [if_pos ⟨h, h2⟩, if_pos ⟨h, h2⟩]
    · rw [if_neg (fun q => h2 q.2), if_neg (fun q => h2 q.2), List.getElem?_eq_none (by omega), List.getElem?_eq_none (by omega)]
  · rw [if_neg (fun q => h q.1), if_neg (fun q => h q.1), st.but j (fun q => h (hv j q)), wipe_get, if_neg (fun q => h q.1)]
end
section
variable {X : Cx} {W : WX}
theorem ifs_one (t : M Bool) : (bnd t fun b => if b then ret true else ret false) = t := by
  funext fr
  unfold bnd
  cases t fr with
  | ok b fr' => cases b <;> rfl
  | _ => rfl
/-- the items of A stand as long as A is not written -/
theorem wk_at {K : PySem.W.Frag} {σ : Sg} {H1 H : Hp} {F1 F : FS} {fr1 : Fr} {p : Itm} {J : It} (r : RIt K σ H1 F1 fr1 p J) {σw : Sg} {fw frb : Fr} (n : Nx K σw H1 F1 fw frb H F) (fw' : Fm K H1 F1 fw σw) (ho : ∀ a, Own fw σw a → Own fr1 σ a) :
    (∀ i, i < p.1.length → J.go i H) ∧ J.stop p.1.length H ∧ ∀ i x H'', i < p.1.length → J.yld i H x H'' → ∃ d F'', p.1[i]? = some d ∧ Grow H F H'' F'' ∧ Rep K H'' F'' x d := by
  obtain ⟨⟨A, hA, wk⟩, _⟩ := r
  exact wk H F (fun a ha => n.keep a (hA a ha).1 fun o => (hA a ha).2 (ho a o)) n.sub (n.frz fw') n.fm.ft
/-- the reading of a comprehension -/
theorem lc_main {vs : List Nat} {t : Tg} {mi : M Itm} {tt : M Bool} {me : M Slot} (hv : ∀ i ∈ t.vars, i ∈ vs) (σ : Sg) (H : Hp) (Q : VK)
    (q : mV X W (bnd (lcM vs mi (asgT t) tt (bnd (fz me) fun d => ret [d])) fun ds => ret (.own ds)) σ H Q) :
    tLc (mI X W mi) (mG X.K (asgT t) t.vars) (Sm X.K X.mg W0 RT GT tt) (Sm X.K X.mg W0 (RD X.K) GT (fz me)) vs σ H Q := by
  obtain ⟨F, fr, f, q⟩ := q
  refine ⟨F, fr, f, ?_⟩
  have e0 : bnd (lcM vs mi (asgT t) tt (bnd (fz me) fun d => ret [d])) (fun ds => ret (Slot.own ds)) = bnd mi fun p => fun fr => bndO (lcE vs fr p.2 (lcL vs (asgT t) tt (bnd (fz me) fun d => ret [d]) p.1 fr)) fun ds => ret (Slot.own ds) := by
    funext fr
    simp only [lcM, bnd]
    cases mi fr <;> rfl
  rw [e0] at q
  refine Fin.bnd' f (.refl f) _ _ q fun p J H1 F1 fr1 n1 r1 g1 q1 => ?_
  intro D hD
  cases eL : lcL vs (asgT t) tt (bnd (fz me) fun d => ret [d]) p.1 fr1 with
  | bad => rw [eL] at q1; exact q1.elim
  | ex _ _ => rw [eL] at q1; exact q1.elim
  | ok tot frE =>
    rw [eL] at q1
    have q1 : Fin X.K X.mg W (RS X.K) From σ H F fr (bndO (if tot.length < sizeLine then .ok tot (unlk p.2 (putF vs fr1 frE)) else .bad) fun ds => ret (Slot.own ds)) Q := q1
    split at q1
    case isFalse => exact q1.elim
    rename_i hlen
    have fw := n1.fm.wipe vs
    have ho : ∀ a, Own (wipeF vs fr1) (L2.wipe σ vs) a → Own fr1 σ a := fun a h => let ⟨k, _, ok, ek⟩ := own_wipe h; ⟨k, ok, ek⟩
    have hFD : ¬ F1 D := fun h => n1.fm.ft D h hD
    have ownD : ∀ {frb : Fr} {Hb : Hp} {Fb : FS}, Nx X.K (L2.wipe σ vs) H1 F1 (wipeF vs fr1) frb Hb Fb → ¬ Own frb (L2.wipe σ vs) D ∧ ¬ Lok frb (L2.wipe σ vs) D := fun n => by
      refine ⟨fun o => ?_, fun o => ?_⟩
      · obtain ⟨⟨ws, z⟩, _⟩ := fw.own (n.own D o)
        rw [hD] at z; cases z
      · rcases n.lok D o with o | o
        · obtain ⟨⟨ws, z⟩, _⟩ := fw.own o
          rw [hD] at z; cases z
        · obtain ⟨⟨ws, z⟩, _⟩ := fw.lok o
          rw [hD] at z; cases z
    have ownD' : ∀ {fr2 : Fr} {σ2 : Sg} {frb : Fr} {Hb : Hp} {Fb : FS} {vars : List Nat}, Nx X.K (L2.wipe σ vs) H1 F1 (wipeF vs fr1) frb Hb Fb → Sto X.K Hb Fb vars (L2.wipe σ vs) frb σ2 fr2 → ¬ Own fr2 σ2 D ∧ ¬ Lok fr2 σ2 D := fun n st =>
      ⟨fun o => (ownD n).1 (st.own D o), fun o => (ownD n).2 (st.lok D o)⟩
    refine ⟨fun i m H => m = p.1.length - i ∧ i ≤ p.1.length ∧ LcI X.K σ vs H1 F1 fr1 D tot frE (lcL vs (asgT t) tt (bnd (fz me) fun d => ret [d])) p.1 i H, ⟨p.1.length, by simp, Nat.zero_le _, F1, fr1, [], tot, [], Nx.poke (.refl fw) fw hD hFD, upd_same, .nil, hFD, eL, rfl⟩, ?_⟩
    rintro i m H2 ⟨rfl, hi, F2, frb, acc, rest, ws, n, hHD, hacc, hF2, hgo, htot⟩
    have w := wk_at r1 n fw ho
    by_cases hlt : i < p.1.length
    · refine .inr ⟨w.1 i hlt, fun H => LcI X.K σ vs H1 F1 fr1 D tot frE (lcL vs (asgT t) tt (bnd (fz me) fun d => ret [d])) p.1 (i + 1) H, fun H' p' => ⟨_, by omega, rfl, hlt, p'⟩, fun x H3 hy => ?_⟩
      obtain ⟨d, F3, ed, g, rr⟩ := w.2.2 i x H3 hlt hy
      have edrop : p.1.drop i = d :: p.1.drop (i + 1) := by
        rw [List.drop_eq_getElem_cons hlt]
        congr 1
        rw [List.getElem?_eq_getElem hlt] at ed
        exact Option.some.inj ed
      rw [edrop] at hgo
      unfold lcL at hgo
      obtain ⟨_, fr2, e1, hgo⟩ := bnd_ok hgo
      obtain ⟨b, fr3, e2, hgo⟩ := bnd_ok hgo
      obtain ⟨dd, fr4, e3, hgo⟩ := bnd_ok hgo
      obtain ⟨ds, fr5, e4, hgo⟩ := bnd_ok hgo
      cases hgo
      have hHD2 : H2 D ≠ none := by rw [hHD]; (intro q; cases q)
      have n3 := n.trans fw (g.nx n.fm)
      have h3D : H3 D = some (.lst ws) := (g.keep D hHD2).trans hHD
      have h3D' : H3 D ≠ none := by rw [h3D]; (intro q; cases q)
      have hF3 : ¬ F3 D := fun q => hF2 (g.nof D hHD2 q)
      have acc3 := hacc.mono g.sub (g.frz n.fm.ft)
      refine ⟨F3, wipeF vs frb, d, n3.fm, rr, ?_⟩
      rw [e1]
      intro σ2 st
      have hw := wipe_sto st hv
      refine ⟨hw, F3, fr2, st.fm, ?_⟩
      rw [e2]
      intro b' H4 F4 n4 eb _
      have eb' : b = b' := eb
      subst eb'
      have od := ownD' n3 st
      have h4D : H4 D = some (.lst ws) := (n4.keep D h3D' od.1).trans h3D
      have h4D' : H4 D ≠ none := by rw [h4D]; (intro q; cases q)
      have hF4 : ¬ F4 D := fun q => hF3 (n4.nof D h3D' od.1 od.2 q)
      have acc4 := acc3.mono n4.sub (n4.frz st.fm)
      cases b with
      | false =>
        cases e3
        exact ⟨F4, fr3, acc, ds, ws, Nx.back n3 fw st n4 hw, h4D, acc4, hF4, e4, by simpa using htot⟩
      | true =>
        obtain ⟨d0, fr6, e5, e6⟩ := bnd_ok (show bnd (fz me) (fun d => ret [d]) fr3 = .ok dd fr4 from e3)
        cases e6
        refine ⟨F4, fr3, n4.fm, ?_⟩
        rw [e5]
        intro y H5 F5 n5 ry _
        have od4 : ¬ Own fr3 σ2 D ∧ ¬ Lok fr3 σ2 D := ⟨fun o => od.1 (n4.own D o), fun o => (n4.lok D o).elim od.1 od.2⟩
        have h5D : H5 D = some (.lst ws) := (n5.keep D h4D' od4.1).trans h4D
        have hF5 : ¬ F5 D := fun q => hF4 (n5.nof D h4D' od4.1 od4.2 q)
        have acc5 := acc4.mono n5.sub (n5.frz n4.fm)
        have fz5 : ∀ a, F5 a → upd H5 D (.lst (ws ++ [y])) a = H5 a := fun a h => upd_ne fun e => hF5 (by rw [← e]; exact h)
        have ry' : Rep X.K H5 F5 y d0 := ry
        refine ⟨ws, h5D, ?_, F5, fr4, acc ++ [d0], ds, ws ++ [y], Nx.poke (Nx.back n3 fw st (n4.trans st.fm n5) hw) fw hD hF5, upd_same, (acc5.append (.cons ry' .nil)).mono (fun _ h => h) fz5, hF5, e4, by simpa using htot⟩
        rw [hacc.length]
        have : tot.length = acc.length + ([d0] ++ ds).length := by rw [← htot, List.length_append]
        omega
    · have e : i = p.1.length := by omega
      subst e
      refine .inl ⟨w.2.1, ?_⟩
      rw [List.drop_eq_nil_of_le (Nat.le_refl _)] at hgo
      cases hgo
      have nf : Nx X.K σ H F fr (unlk p.2 (putF vs fr1 frE)) H2 F2 := Nx.unlk (n1.trans f (Nx.put n1.fm n)) g1
      have hHn : H D = none := by
        by_cases q : H D = none
        · exact q
        · exact absurd hD (n1.trk D q)
      have noD : ∀ {a}, Own fr σ a → a ≠ D := fun o e => by
        obtain ⟨⟨ws, z⟩, _⟩ := f.own o
        rw [e, hHn] at z; cases z
      have nlD : ∀ {a}, Lok fr σ a → a ≠ D := fun o e => by
        obtain ⟨⟨ws, z⟩, _⟩ := f.lok o
        rw [e, hHn] at z; cases z
      refine q1 (.ref D) H2 F2 nf ⟨D, ws, rfl, hHD, by rw [← htot, List.append_nil]; exact hacc, hF2, fun o => noD (nf.own D o) rfl, fun o => (nf.lok D o).elim (fun o => noD o rfl) fun o => nlD o rfl⟩ fun ds a _ e => ?_
      cases e
      exact .inr hHn
end
end MP

/-! MP: dict displays. -/
namespace MP
open PySem PySem.Spec PyProof.Rows L2
theorem putK_new' : ∀ (kvs : List (Key × V)) (k : Key) (v : V), k ∉ kvs.map (·.1) → putK kvs k v = kvs ++ [(k, v)]
  | [], k, v, _ => rfl
  | (j, w) :: r, k, v, h => by
    have h1 : j ≠ k := fun e => h (by simp [e])
    have h2 : k ∉ r.map (·.1) := fun e => h (by simp at e ⊢; exact .inr e)
    have ih := putK_new' r k v h2
    unfold putK at ih ⊢
    simp_all
theorem merge_new : ∀ (more kvs : List (Key × V)), (kvs ++ more).map (·.1) |>.Nodup → mergeK kvs more = kvs ++ more
  | [], kvs, _ => by simp [mergeK]
  | (k, v) :: r, kvs, h => by
    have h1 : k ∉ kvs.map (·.1) := fun e => by
      rw [List.map_append, List.map_cons, List.nodup_append] at h
      exact h.2.2 k e k List.mem_cons_self rfl
    show mergeK (putK kvs k v) r = _
    rw [putK_new' kvs k v h1, merge_new r]
    · simp
    · simpa using h
section
variable {K : PySem.W.Frag} {H H1 : Hp} {F F1 : FS} {fr fr1 : Fr} {σ : Sg}
theorem Nx.freeze {p : Addr} (n : Nx K σ H F fr fr1 H1 F1) (hp : H p = none) (h1 : H1 p ≠ none) (no : ¬ Own fr1 σ p) (nl : ¬ Lok fr1 σ p) : Nx K σ H F fr fr1 H1 (fun a => F1 a ∨ a = p) := by
  have sub : ∀ b, F1 b → (F1 b ∨ b = p) := fun b h => .inl h
  refine ⟨⟨n.fm.len, fun i => ?_, n.fm.dis, fun b hb => ?_⟩, fun b h => .inl (n.sub b h), n.trk, n.keep, fun b hb ho hl q => ?_, n.ownS, n.hldS⟩
  · have r := n.fm.rep i
    cases q : fr1.sl i with
    | un => trivial
    | val d =>
      rw [q] at r
      obtain ⟨x, e, r⟩ := r
      exact ⟨x, e, r.mono sub fun _ _ => rfl⟩
    | lk ds =>
      rw [q] at r
      obtain ⟨b, vs, e, h, r, nf⟩ := r
      exact ⟨b, vs, e, h, r.mono sub fun _ _ => rfl, fun z => z.elim nf fun z => nl ⟨i, by rw [q]; rfl, by rw [e, z]⟩⟩
    | own ds =>
      rw [q] at r
      obtain ⟨b, vs, e, h, r, nf⟩ := r
      exact ⟨b, vs, e, h, r.mono sub fun _ _ => rfl, fun z => z.elim nf fun z => no ⟨i, by rw [q]; rfl, by rw [e, z]⟩⟩
  · rcases hb with hb | hb
    · exact n.fm.ft b hb
    · rw [hb]; exact h1
  · rcases q with q | q
    · exact n.nof b hb ho hl q
    · rw [q] at hb; exact absurd hp hb
end
section
variable {X : Cx} {W : WX}
def dicT (X : Cx) (W : WX) : List Key → List Ev → List (TE × TE)
  | k :: ks, x :: xs => (tC (kV k), mD X W (fz x.v)) :: dicT X W ks xs
  | _, _ => []
theorem dic_pairs : ∀ (ks : List Key) (xs : List Ev), ks.length = xs.length → ∀ {σ : Sg} {H : Hp} {F : FS} {fr : Fr} (f : Fm X.K H F fr σ) {P : List V → Hp → Prop}, Fin X.K X.mg W (RDs X.K) GT σ H F fr (vals xs fr) P →
    ∀ Qf : List (V × V) → Hp → Prop, (∀ vs H', vs.length = ks.length → P vs H' → Qf ((ks.zip vs).map fun kv => (kV kv.1, kv.2)) H') → tPairs (dicT X W ks xs) σ H Qf
  | [], [], _, σ, H, F, fr, f, P, q, Qf, hQ => hQ [] H rfl (Fin.done f q .nil trivial)
  | [], _ :: _, h, _, _, _, _, _, _, _, _, _ => by cases h
  | _ :: _, [], h, _, _, _, _, _, _, _, _, _ => by cases h
  | k :: ks, x :: xs, h, σ, H, F, fr, f, P, q, Qf, hQ => by
    refine ⟨F, fr, f, Fin.bnd' f (.refl f) _ _ q fun d v H1 F1 fr1 n1 r1 g1 q1 => ?_⟩
    exact dic_pairs ks xs (by simpa using h) n1.fm (P := fun vs H2 => P (v :: vs) H2) (Fin.bnd' f n1 (RDs X.K) GT q1 fun ds vs H2 F2 fr2 n2 r2 g2 q2 => q2 (v :: vs) H2 F2 (n1.trans f n2) (Reps.cons (n2.rep n1.fm r1) r2) trivial) _
      fun vs H' e hp => hQ (v :: vs) H' (by simp [e]) hp
theorem sm_dic {keys : List (Option Expr)} {values : List Expr} {pos : Pos} {ks : List Key} {xs : List Ev} (hp : PPs X pos keys values (dicT X W ks xs)) (hall : keys.all (·.isSome) = true) (hl : keys.length = values.length) (h0 : keys ≠ []) (h15 : keys.length ≤ 15) (hk : ks.length = xs.length) (hk2 : ks.length ≤ 15) (hnd : ks.Nodup) :
    PE X (.Dict keys values pos) (mV X W (bnd (vals xs) fun ds => if ds.length = ks.length then ret (.val (.dic ks ds)) else bad)) := by
  refine PE_imp (pe_disp hp hall hl h0 h15) fun σ H Q ⟨F, fr, f, q⟩ p hpn => ?_
  have hFp : ¬ F p := fun h => f.ft p h hpn
  have np : Nx X.K σ H F fr fr (upd H p (.dK [])) F := Nx.poke (.refl f) f hpn hFp
  have same : upd H p (.dK []) p = some (.dK []) := upd_same
  have hne : upd H p (.dK []) p ≠ none := by rw [same]; intro z; cases z
  have no : ¬ Own fr σ p := fun o => by
    obtain ⟨⟨ws, z⟩, _⟩ := f.own o
    rw [hpn] at z; cases z
  have nl : ¬ Lok fr σ p := fun o => by
    obtain ⟨⟨ws, z⟩, _⟩ := f.lok o
    rw [hpn] at z; cases z
  refine dic_pairs ks xs hk np.fm (P := fun vs H2 => H2 p = some (.dK []) ∧ (vs.length = ks.length → Q (.ref p) (upd H2 p (.dK (ks.zip vs))))) (Fin.bnd' f np (RDs X.K) GT q fun ds vs H2 F2 fr2 n2 r2 g2 q2 => ?_) _ fun vs H' e hP => ⟨hP.1, ks.zip vs, rfl, by rw [List.length_zip]; omega, ?_⟩
  · have e2 : H2 p = some (.dK []) := (n2.keep p hne no).trans same
    refine ⟨e2, fun hvl => ?_⟩
    have r2' : Reps X.K H2 F2 vs ds := r2
    rw [if_pos (by rw [← r2'.length]; exact hvl)] at q2
    have n := np.trans f n2
    have nf2 : ¬ F2 p := fun z => hFp (n2.nof p hne no nl z)
    have nk := Nx.poke (o := .dK (ks.zip vs)) n f hpn nf2
    have no2 : ¬ Own fr2 σ p := fun o => no (n2.own p o)
    have nl2 : ¬ Lok fr2 σ p := fun o => (n2.lok p o).elim no nl
    have nz := Nx.freeze nk hpn (by rw [upd_same]; intro z; cases z) no2 nl2
    refine q2 (.ref p) _ _ nz ?_ fun _ _ z => by cases z
    exact .dic ⟨.inr rfl, upd_same⟩ hvl.symm hnd (r2'.mono (fun _ h => .inl h) fun a h => upd_ne fun z => nf2 (by rw [← z]; exact h))
  · have nd : (([] ++ ks.zip vs : List (Key × V)).map (·.1)).Nodup := by
      rw [List.nil_append, List.map_fst_zip (by omega)]; exact hnd
    rw [merge_new _ _ nd, List.nil_append]
    exact hP.2 e
end
end MP

/-! MP: calls. -/
namespace MP
open PySem PySem.Spec PyProof.Rows L2
/-- an operand's own list -/
def tmp (o : Opd) (v : V) (a : Addr) : Prop := ∃ ds, o = .sl (.own ds) ∧ v = .ref a
def tmps : List Opd → List V → Addr → Prop
  | o :: os, v :: vs, a => tmp o v a ∨ tmps os vs a
  | _, _, _ => False
def TDis : List Opd → List V → Prop
  | o :: os, v :: vs => (∀ a, tmp o v a → ¬ tmps os vs a) ∧ TDis os vs
  | _, _ => True
def Hd (fr : Fr) (σ : Sg) (a : Addr) : Prop := ∃ i, (fr.sl i).isHeld = true ∧ sv σ i = some (.ref a)
section
variable {K : PySem.W.Frag} {mg : Str → Option Value} {W : WX} {H H0 H1 H2 : Hp} {F F0 F1 F2 : FS} {fr fr0 fr1 fr2 : Fr} {σ : Sg}
theorem hd_iff {a : Addr} : Hd fr σ a ↔ Own fr σ a ∨ Lok fr σ a := by
  constructor
  · rintro ⟨i, h, e⟩
    unfold Slot.isHeld at h
    rw [Bool.or_eq_true] at h
    exact h.elim (fun h => .inl ⟨i, h, e⟩) fun h => .inr ⟨i, h, e⟩
  · rintro (⟨i, h, e⟩ | ⟨i, h, e⟩)
    · exact ⟨i, by unfold Slot.isHeld; rw [h]; rfl, e⟩
    · exact ⟨i, by unfold Slot.isHeld; rw [h, Bool.or_true], e⟩
theorem Fm.nil (ft : FT F H) : Fm K H F [] [] := ⟨rfl, fun i => by rw [sl_big (by simp)]; trivial, fun i j a h => (by rw [sl_big (by simp)] at h; cases h), ft⟩
theorem sl_zero (s : Slot) (fr : Fr) : Fr.sl (s :: fr) 0 = s := rfl
theorem sl_succ (s : Slot) (fr : Fr) (i : Nat) : Fr.sl (s :: fr) (i + 1) = fr.sl i := by
  unfold Fr.sl
  simp [List.getD_eq_getElem?_getD]
theorem sv_zero (v : Option V) (σ : Sg) : sv (v :: σ) 0 = v := rfl
theorem sv_succ (v : Option V) (σ : Sg) (i : Nat) : sv (v :: σ) (i + 1) = sv σ i := by
  unfold sv
  simp
theorem own_cons {s : Slot} {v : Option V} {a : Addr} : Own (s :: fr) (v :: σ) a ↔ (s.isOwn = true ∧ v = some (.ref a)) ∨ Own fr σ a := by
  constructor
  · rintro ⟨i, h, e⟩
    cases i with
    | zero => exact .inl ⟨h, e⟩
    | succ i => rw [sl_succ] at h; rw [sv_succ] at e; exact .inr ⟨i, h, e⟩
  · rintro (⟨h, e⟩ | ⟨i, h, e⟩)
    · exact ⟨0, h, e⟩
    · exact ⟨i + 1, by rw [sl_succ]; exact h, by rw [sv_succ]; exact e⟩
theorem lok_cons {s : Slot} {v : Option V} {a : Addr} : Lok (s :: fr) (v :: σ) a ↔ (s.isLk = true ∧ v = some (.ref a)) ∨ Lok fr σ a := by
  constructor
  · rintro ⟨i, h, e⟩
    cases i with
    | zero => exact .inl ⟨h, e⟩
    | succ i => rw [sl_succ] at h; rw [sv_succ] at e; exact .inr ⟨i, h, e⟩
  · rintro (⟨h, e⟩ | ⟨i, h, e⟩)
    · exact ⟨0, h, e⟩
    · exact ⟨i + 1, by rw [sl_succ]; exact h, by rw [sv_succ]; exact e⟩
theorem hd_cons {s : Slot} {v : Option V} {a : Addr} : Hd (s :: fr) (v :: σ) a ↔ (s.isHeld = true ∧ v = some (.ref a)) ∨ Hd fr σ a := by
  constructor
  · rintro ⟨i, h, e⟩
    cases i with
    | zero => exact .inl ⟨h, e⟩
    | succ i => rw [sl_succ] at h; rw [sv_succ] at e; exact .inr ⟨i, h, e⟩
  · rintro (⟨h, e⟩ | ⟨i, h, e⟩)
    · exact ⟨0, h, e⟩
    · exact ⟨i + 1, by rw [sl_succ]; exact h, by rw [sv_succ]; exact e⟩
theorem Fm.cons {s : Slot} {v : Option V} (f : Fm K H F fr σ) (hs : SlotOk K H F s v) (hd : ∀ a, s.isHeld = true → v = some (.ref a) → ¬ Hd fr σ a) : Fm K H F (s :: fr) (v :: σ) := by
  refine ⟨by simp [f.len], fun i => ?_, fun i j a hi hj ei ej => ?_, f.ft⟩
  · cases i with
    | zero => exact hs
    | succ i => rw [sl_succ, sv_succ]; exact f.rep i
  · cases i with
    | zero =>
      cases j with
      | zero => rfl
      | succ j => rw [sl_succ] at hj; rw [sv_succ] at ej; exact (hd a hi ei ⟨j, hj, ej⟩).elim
    | succ i =>
      cases j with
      | zero => rw [sl_succ] at hi; rw [sv_succ] at ei; exact (hd a hj ej ⟨i, hi, ei⟩).elim
      | succ j =>
        rw [sl_succ] at hi hj; rw [sv_succ] at ei ej
        rw [f.dis i j a hi hj ei ej]
theorem Fm.tail {s : Slot} {v : Option V} (f : Fm K H F (s :: fr) (v :: σ)) : Fm K H F fr σ ∧ SlotOk K H F s v ∧ ∀ a, s.isHeld = true → v = some (.ref a) → ¬ Hd fr σ a := by
  refine ⟨⟨by simpa using f.len, fun i => ?_, fun i j a hi hj ei ej => ?_, f.ft⟩, f.rep 0, fun a h e ⟨i, hi, ei⟩ => ?_⟩
  · have := f.rep (i + 1)
    rw [sl_succ, sv_succ] at this; exact this
  · have := f.dis (i + 1) (j + 1) a (by rw [sl_succ]; exact hi) (by rw [sl_succ]; exact hj) (by rw [sv_succ]; exact ei) (by rw [sv_succ]; exact ej)
    omega
  · have := f.dis 0 (i + 1) a h (by rw [sl_succ]; exact hi) e (by rw [sv_succ]; exact ei)
    omega
theorem RS.ok {s : Slot} {v : V} (r : RS K σ H F fr s v) : SlotOk K H F s (some v) := by
  cases s with
  | un => trivial
  | val d => exact ⟨v, rfl, r⟩
  | own ds => obtain ⟨a, vs, rfl, h, q, nf, _⟩ := r; exact ⟨a, vs, rfl, h, q, nf⟩
  | lk _ => exact r.elim
theorem set_un_sl (fr : Fr) (i j : Nat) : Fr.sl (fr.set i .un) j = if i = j then .un else fr.sl j := by
  rw [sl_set]
  by_cases h : i = j
  · subst h
    by_cases h2 : i < fr.length
    · simp [h2]
    · rw [if_neg (fun q => h2 q.2), if_pos rfl]; exact sl_big (by omega)
  · rw [if_neg (fun q => h q.1), if_neg h]
/-- two frames side by side -/
structure Two (K : PySem.W.Frag) (H : Hp) (F : FS) (fr : Fr) (σ : Sg) (ss : List Slot) (τ : Sg) : Prop where
  a : Fm K H F fr σ
  b : Fm K H F ss τ
  x : ∀ c, Hd fr σ c → ¬ Hd ss τ c
/-- arguments are taken -/
theorem takes_ok : ∀ {os : List Opd} {vs : List V} {fr : Fr}, Fm K H F fr σ → ROs K σ H F fr os vs → TDis os vs →
    ∃ ss fr2, takes os fr = .ok ss fr2 ∧ Two K H F fr2 σ ss (vs.map some) ∧ (∀ c, Own fr2 σ c → Own fr σ c) ∧ (∀ c, Lok fr2 σ c → Lok fr σ c) ∧ (∀ c, Own ss (vs.map some) c → Own fr σ c ∨ tmps os vs c) ∧ (∀ c, Lok ss (vs.map some) c → Lok fr σ c) ∧ (∀ j, fr2.sl j = fr.sl j ∨ fr2.sl j = .un) ∧ ∀ m j, os[m]? = some (Opd.at j) → Fr.sl ss m = fr.sl j ∨ Fr.sl ss m = .un
  | [], _, fr, f, .nil, _ => ⟨[], fr, rfl, ⟨f, .nil f.ft, fun c _ ⟨i, h, _⟩ => by rw [sl_big (by simp)] at h; cases h⟩, fun _ h => h, fun _ h => h, fun c ⟨i, h, _⟩ => (by rw [sl_big (by simp)] at h; cases h), fun c ⟨i, h, _⟩ => (by rw [sl_big (by simp)] at h; cases h), fun _ => .inl rfl, fun m j h => by simp at h⟩
  | o :: os, _, fr, f, .cons (a := v) (l₁ := vs) r t, d => by
    cases o with
    | sl s =>
      obtain ⟨ss, fr2, e, tw, h1, h2, h3, h4, h5, h6⟩ := takes_ok f t d.2
      have r' : RS K σ H F fr s v := r
      have nh : ∀ a, s.isHeld = true → some v = some (.ref a) → ¬ Hd fr σ a ∧ ¬ tmps os vs a := fun a hs ev => by
        cases s with
        | own ds =>
          obtain ⟨b, ws, eb, _, _, _, no, nl⟩ := r'
          have : b = a := by rw [eb] at ev; cases ev; rfl
          subst this
          exact ⟨fun q => (hd_iff.mp q).elim no nl, d.1 b ⟨ds, rfl, eb⟩⟩
        | lk _ => exact r'.elim
        | un => cases hs
        | val _ => cases hs
      have nss : ∀ a, s.isHeld = true → some v = some (.ref a) → ¬ Hd ss (vs.map some) a := fun a hs ev q => by
        rcases hd_iff.mp q with q | q
        · rcases h3 a q with q | q
          · exact (nh a hs ev).1 (hd_iff.mpr (.inl q))
          · exact (nh a hs ev).2 q
        · exact (nh a hs ev).1 (hd_iff.mpr (.inr (h4 a q)))
      refine ⟨s :: ss, fr2, ?_, ⟨tw.a, tw.b.cons r'.ok nss, fun c hc q => ?_⟩, h1, h2, fun c q => ?_, fun c q => ?_, h5, fun m j hm => ?_⟩
      · show bndO (takes os fr) (fun ss => ret (s :: ss)) = _
        rw [e]; rfl
      · rcases hd_cons.mp q with ⟨hs, ev⟩ | q
        · refine (nh c hs ev).1 (hd_iff.mpr ?_)
          exact (hd_iff.mp hc).elim (fun h => .inl (h1 c h)) fun h => .inr (h2 c h)
        · exact tw.x c hc q
      · rcases own_cons.mp q with ⟨hs, ev⟩ | q
        · obtain ⟨ds, rfl⟩ := isOwn_iff.mp hs
          exact .inr (.inl ⟨ds, rfl, Option.some.inj ev⟩)
        · exact (h3 c q).elim .inl fun q => .inr (.inr q)
      · rcases lok_cons.mp q with ⟨hs, ev⟩ | q
        · cases s <;> first | (cases hs; done) | exact r'.elim
        · exact h4 c q
      · cases m with
        | zero => simp at hm
        | succ m => rw [sl_succ]; exact h6 m j (by simpa using hm)
    | «at» i =>
      have ei : sv σ i = some v := r
      have n : Nx K σ H F fr (fr.set i .un) H F := Nx.slot f (fun _ h => h) (fun _ h => .inl h) trivial (fun h => by cases h) (fun h => by cases h)
      have t' : ROs K σ H F (fr.set i .un) os vs := Paired.imp2 t fun v o q => n.ro f q
      obtain ⟨ss, fr2, e, tw, h1, h2, h3, h4, h5, h6⟩ := takes_ok n.fm t' d.2
      have nowi : ∀ c, sv σ i = some (.ref c) → (fr.sl i).isHeld = true → ¬ Hd (fr.set i .un) σ c := fun c ec hh ⟨j, hj, ej⟩ => by
        rw [set_un_sl] at hj
        split at hj
        · cases hj
        · rename_i ne; exact ne (f.dis i j c hh hj ec ej)
      have ntm : ∀ c, Hd fr σ c → ¬ tmps os vs c := fun c hc q => by
        have : ∀ (os : List Opd) (vs : List V), ROs K σ H F fr os vs → ¬ tmps os vs c := by
          intro os vs r
          induction r with
          | nil => exact fun q => q
          | cons r t ih =>
            rintro (⟨ds, rfl, rfl⟩ | q)
            · obtain ⟨b, ws, eb, _, _, _, no, nl⟩ := r
              cases eb
              exact (hd_iff.mp hc).elim no nl
            · exact ih q
        exact this os vs t q
      have nss : ∀ a, (fr.sl i).isHeld = true → some v = some (.ref a) → ¬ Hd ss (vs.map some) a := fun a hs ev q => by
        have ea : sv σ i = some (.ref a) := by rw [ei, ev]
        rcases hd_iff.mp q with q | q
        · rcases h3 a q with q | q
          · exact nowi a ea hs (hd_iff.mpr (.inl q))
          · exact ntm a ⟨i, hs, ea⟩ q
        · exact nowi a ea hs (hd_iff.mpr (.inr (h4 a q)))
      refine ⟨fr.sl i :: ss, fr2, ?_, ⟨tw.a, tw.b.cons (by have := f.rep i; rw [ei] at this; exact this) nss, fun c hc q => ?_⟩, fun c h => n.own c (h1 c h), fun c h => ?_, fun c q => ?_, fun c q => ?_, fun j => ?_, fun m j hm => ?_⟩
      · show bndO (takes os (fr.set i .un)) (fun ss => ret (fr.sl i :: ss)) = _
        rw [e]; rfl
      · rcases hd_cons.mp q with ⟨hs, ev⟩ | q
        · refine nowi c (by rw [ei, ev]) hs (hd_iff.mpr ?_)
          exact (hd_iff.mp hc).elim (fun h => .inl (h1 c h)) fun h => .inr (h2 c h)
        · exact tw.x c hc q
      · obtain ⟨j, hj, ej⟩ := h2 c h
        rw [set_un_sl] at hj
        split at hj
        · cases hj
        · exact ⟨j, hj, ej⟩
      · rcases own_cons.mp q with ⟨hs, ev⟩ | q
        · exact .inl ⟨i, hs, by rw [ei, ev]⟩
        · exact (h3 c q).elim (fun q => .inl (n.own c q)) fun q => .inr (.inr q)
      · rcases lok_cons.mp q with ⟨hs, ev⟩ | q
        · exact ⟨i, hs, by rw [ei, ev]⟩
        · obtain ⟨j, hj, ej⟩ := h4 c q
          rw [set_un_sl] at hj
          split at hj
          · cases hj
          · exact ⟨j, hj, ej⟩
      · rcases h5 j with z | z
        · rw [set_un_sl] at z
          split at z
          · exact .inr z
          · exact .inl z
        · exact .inr z
      · cases m with
        | zero =>
          have : i = j := by simpa using hm
          subst this; exact .inl rfl
        | succ m =>
          rw [sl_succ]
          rcases h6 m j (by simpa using hm) with z | z
          · rw [set_un_sl] at z
            split at z
            · exact .inr z
            · exact .inl z
          · exact .inr z
/-- what stands beside a frame that works stays -/
theorem Two.nx {ss ps : List Slot} {τ : Sg} (t : Two K H F fr σ ss τ) (n : Nx K τ H F ss ps H1 F1) : Two K H1 F1 fr σ ps τ := by
  have own : ∀ a, Hd fr σ a → ¬ Own ss τ a ∧ ¬ Lok ss τ a := fun a h => ⟨fun q => t.x a h (hd_iff.mpr (.inl q)), fun q => t.x a h (hd_iff.mpr (.inr q))⟩
  refine ⟨⟨t.a.len, fun j => ?_, t.a.dis, n.fm.ft⟩, n.fm, fun a h q => ?_⟩
  · have r := t.a.rep j
    cases y : fr.sl j with
    | un => trivial
    | val d =>
      rw [y] at r
      obtain ⟨x, ex, r⟩ := r
      exact ⟨x, ex, n.rep t.b r⟩
    | own ds =>
      rw [y] at r
      obtain ⟨a, vs, ex, h, r, nf⟩ := r
      have q := own a ⟨j, by rw [y]; rfl, ex⟩
      have ht : H a ≠ none := by rw [h]; (intro q; cases q)
      exact ⟨a, vs, ex, (n.keep a ht q.1).trans h, n.reps t.b r, fun z => nf (n.nof a ht q.1 q.2 z)⟩
    | lk ds =>
      rw [y] at r
      obtain ⟨a, vs, ex, h, r, nf⟩ := r
      have q := own a ⟨j, by rw [y]; rfl, ex⟩
      have ht : H a ≠ none := by rw [h]; (intro q; cases q)
      exact ⟨a, vs, ex, (n.keep a ht q.1).trans h, n.reps t.b r, fun z => nf (n.nof a ht q.1 q.2 z)⟩
  · rcases hd_iff.mp q with q | q
    · exact (own a h).1 (n.own a q)
    · exact (n.lok a q).elim (own a h).1 (own a h).2
/-- what was lent comes back -/
theorem backs_ok : ∀ {os : List Opd} {vs : List V} {ps : List Slot} {fr : Fr}, Two K H F fr σ ps (vs.map some) → Paired (fun v o => ∀ i, o = .at i → sv σ i = some v) vs os →
    Fm K H F (backs os ps fr) σ ∧ (∀ c, Own (backs os ps fr) σ c → Own fr σ c ∨ Own ps (vs.map some) c) ∧ (∀ c, Lok (backs os ps fr) σ c → Lok fr σ c ∨ Lok ps (vs.map some) c) ∧
    ∀ j, Fr.sl (backs os ps fr) j = fr.sl j ∨ ∃ m, os[m]? = some (Opd.at j) ∧ Fr.sl (backs os ps fr) j = Fr.sl ps m
  | [], _, ps, fr, t, _ => by
    have e : backs [] ps fr = fr := by unfold backs; rfl
    rw [e]; exact ⟨t.a, fun _ h => .inl h, fun _ h => .inl h, fun _ => .inl rfl⟩
  | o :: os, _, [], fr, t, _ => by
    have e : backs (o :: os) [] fr = fr := by cases o <;> rfl
    rw [e]; exact ⟨t.a, fun _ h => .inl h, fun _ h => .inl h, fun _ => .inl rfl⟩
  | o :: os, v :: vs, s :: ps, fr, t, .cons r q => by
    obtain ⟨tb, hs, hx⟩ := Fm.tail t.b
    have x' : ∀ c, Hd fr σ c → ¬ Hd ps (vs.map some) c := fun c h z => t.x c h (hd_cons.mpr (.inr z))
    cases o with
    | sl s0 =>
      have e : backs (.sl s0 :: os) (s :: ps) fr = backs os ps fr := rfl
      rw [e]
      obtain ⟨h1, h2, h3, h4⟩ := backs_ok ⟨t.a, tb, x'⟩ q
      exact ⟨h1, fun c h => (h2 c h).elim .inl fun h => .inr (own_cons.mpr (.inr h)), fun c h => (h3 c h).elim .inl fun h => .inr (lok_cons.mpr (.inr h)), fun j => (h4 j).elim .inl fun ⟨m, e1, e2⟩ => .inr ⟨m + 1, by simpa using e1, by rw [sl_succ]; exact e2⟩⟩
    | «at» i =>
      have e : backs (.at i :: os) (s :: ps) fr = backs os ps (fr.set i s) := rfl
      rw [e]
      have ei := r i rfl
      have hcase : ∀ j, Fr.sl (fr.set i s) j = fr.sl j ∨ (j = i ∧ Fr.sl (fr.set i s) j = s) := fun j => by
        rw [sl_set]
        split
        · rename_i z; exact .inr ⟨z.1.symm, rfl⟩
        · exact .inl rfl
      have f' : Fm K H F (fr.set i s) σ := by
        refine ⟨by rw [List.length_set]; exact t.a.len, fun j => ?_, fun j k a hj hk ej ek => ?_, t.a.ft⟩
        · rcases hcase j with z | ⟨rfl, z⟩
          · rw [z]; exact t.a.rep j
          · rw [z, ei]; exact hs
        · rcases hcase j with z | ⟨z1, z⟩
          · rw [z] at hj
            rcases hcase k with y | ⟨y1, y⟩
            · rw [y] at hk; exact t.a.dis j k a hj hk ej ek
            · rw [y] at hk; subst y1
              exact (t.x a ⟨j, hj, ej⟩ (hd_cons.mpr (.inl ⟨hk, by rw [← ei, ek]⟩))).elim
          · rw [z] at hj; subst z1
            rcases hcase k with y | ⟨y1, y⟩
            · rw [y] at hk
              exact (t.x a ⟨k, hk, ek⟩ (hd_cons.mpr (.inl ⟨hj, by rw [← ei, ej]⟩))).elim
            · exact y1.symm
      have x2 : ∀ c, Hd (fr.set i s) σ c → ¬ Hd ps (vs.map some) c := fun c ⟨j, hj, ej⟩ z => by
        rcases hcase j with y | ⟨y1, y⟩
        · rw [y] at hj; exact x' c ⟨j, hj, ej⟩ z
        · rw [y] at hj; subst y1
          exact hx c hj (by rw [← ei, ej]) z
      obtain ⟨h1, h2, h3, h4⟩ := backs_ok ⟨f', tb, x2⟩ q
      refine ⟨h1, fun c h => ?_, fun c h => ?_, fun j => ?_⟩
      · rcases h2 c h with ⟨j, hj, ej⟩ | h
        · rcases hcase j with y | ⟨y1, y⟩
          · rw [y] at hj; exact .inl ⟨j, hj, ej⟩
          · rw [y] at hj; subst y1; exact .inr (own_cons.mpr (.inl ⟨hj, by rw [← ei, ej]⟩))
        · exact .inr (own_cons.mpr (.inr h))
      · rcases h3 c h with ⟨j, hj, ej⟩ | h
        · rcases hcase j with y | ⟨y1, y⟩
          · rw [y] at hj; exact .inl ⟨j, hj, ej⟩
          · rw [y] at hj; subst y1; exact .inr (lok_cons.mpr (.inl ⟨hj, by rw [← ei, ej]⟩))
        · exact .inr (lok_cons.mpr (.inr h))
      · rcases h4 j with z | ⟨m, e1, e2⟩
        · rcases hcase j with y | ⟨y1, y⟩
          · exact .inl (by rw [z, y])
          · subst y1; exact .inr ⟨0, rfl, by rw [z, y]; rfl⟩
        · exact .inr ⟨m + 1, by simpa using e1, by rw [sl_succ]; exact e2⟩
end
/-! ### the promise of a def -/
def cO : COut → Out Slot
  | .ok s ps => .ok s ps
  | .ex x ps => .ex x ps
  | .bad => .bad
def spF (K : PySem.W.Frag) (mg : Str → Option Value) (c : List Slot → COut) (n : Nat) : Sp := fun vs H Q E => vs.length = n ∧ ∃ F as, Fm K H F as (vs.map some) ∧ Fin K mg (fun c d _ H => E c d H) (RS K) From (vs.map some) H F as (cO (c as)) Q
def RAs (K : PySem.W.Frag) : Rl (List Opd) (List V) := fun σ H F fr os vs => ROs K σ H F fr os vs ∧ TDis os vs
section
variable {K : PySem.W.Frag} {mg : Str → Option Value} {W : WX} {H H1 H2 : Hp} {F F1 F2 : FS} {fr fr1 fr2 : Fr} {σ : Sg}
theorem tmps_from : ∀ {os : List Opd} {vs : List V} {a : Addr}, FromOs σ H fr os vs → tmps os vs a → Own fr σ a ∨ H a = none
  | _, _, a, .nil, h => h.elim
  | _, _, a, .cons r t, h => by
    rcases h with ⟨ds, rfl, ev⟩ | h
    · exact r ds a rfl ev
    · exact tmps_from t h
/-- from the beginning of a call to its end -/
theorem call_nx {os : List Opd} {vs : List V} {ss ps : List Slot} (f : Fm K H F fr σ) (n1 : Nx K σ H F fr fr1 H1 F1) (r1 : ROs K σ H1 F1 fr1 os vs) (g1 : FromOs σ H fr os vs)
    (tw : Two K H1 F1 fr2 σ ss (vs.map some)) (o3 : ∀ c, Own ss (vs.map some) c → Own fr1 σ c ∨ tmps os vs c) (o4 : ∀ c, Lok ss (vs.map some) c → Lok fr1 σ c)
    (o5 : ∀ j, fr2.sl j = fr1.sl j ∨ fr2.sl j = .un) (o6 : ∀ m j, os[m]? = some (Opd.at j) → Fr.sl ss m = fr1.sl j ∨ Fr.sl ss m = .un)
    (n : Nx K (vs.map some) H1 F1 ss ps H2 F2) : Nx K σ H F fr (backs os ps fr2) H2 F2 ∧ (∀ c, Own (backs os ps fr2) σ c → Own fr2 σ c ∨ Own ps (vs.map some) c) ∧ (∀ c, Lok (backs os ps fr2) σ c → Lok fr2 σ c ∨ Lok ps (vs.map some) c) := by
  have tw2 := tw.nx n
  have hv : Paired (fun v o => ∀ i, o = .at i → sv σ i = some v) vs os := Paired.imp2 r1 fun v o q i e => by subst e; exact q
  obtain ⟨h1, h2, h3, h4⟩ := backs_ok tw2 hv
  have own1 : ∀ a, H a ≠ none → ¬ Own fr σ a → ¬ Own ss (vs.map some) a := fun a h no q => (o3 a q).elim (fun q => no (n1.own a q)) fun q => (tmps_from g1 q).elim no h
  refine ⟨⟨h1, fun a h => n.sub a (n1.sub a h), fun a h => n.trk a (n1.trk a h), fun a h no => (n.keep a (n1.trk a h) (own1 a h no)).trans (n1.keep a h no), fun a h no nl q => n1.nof a h no nl (n.nof a (n1.trk a h) (own1 a h no) (fun q => (n1.lok a (o4 a q)).elim no nl) q), fun j h => ?_, fun j h => ?_⟩, h2, h3⟩
  · rcases h4 j with e | ⟨m, e1, e2⟩
    · rw [e] at h
      rcases o5 j with z | z
      · rw [z] at h; exact n1.ownS j h
      · rw [z] at h; cases h
    · rw [e2] at h
      have h' := n.ownS m h
      rcases o6 m j e1 with z | z
      · rw [z] at h'; exact n1.ownS j h'
      · rw [z] at h'; cases h'
  · rcases h4 j with e | ⟨m, e1, e2⟩
    · rw [e] at h
      rcases o5 j with z | z
      · rw [z] at h; exact n1.hldS j h
      · rw [z] at h; cases h
    · rw [e2] at h
      have h' := n.hldS m h
      rcases o6 m j e1 with z | z
      · rw [z] at h'; exact n1.hldS j h'
      · rw [z] at h'; cases h'
end
end MP

/-! MP: calls, read. -/
namespace MP
open PySem PySem.Spec PyProof.Rows L2
abbrev mA (X : Cx) (W : WX) (m : M (List Opd)) : TA := Sm X.K X.mg W (RAs X.K) FromOs m
section
variable {X : Cx} {W : WX} {pos : Pos}
theorem sm_args_nil {io : List Bool} : PA X [] (mA X W (args io [])) := PA_imp pa_nil fun σ H Q ⟨F, fr, f, q⟩ => by
  have e : args io [] = ret [] := by unfold args; rfl
  rw [e] at q
  exact Fin.done f q ⟨Paired.nil, trivial⟩ Paired.nil
def argM (io : List Bool) (x : Ev) : M Opd := match io with
  | true :: _ => x.o
  | _ => bnd x.v fun s => ret (.sl s)
theorem sm_argM {e : Expr} {x : Ev} (io : List Bool) (hv : PE X e (mV X W x.v)) (ho : PE X e (mO X W x.o)) : PE X e (mO X W (argM io x)) := by
  unfold argM
  split
  · exact ho
  · exact sm_op hv
theorem sm_args_cons {e : Expr} {es : List Expr} {io : List Bool} {x : Ev} {xs : List Ev} (hv : PE X e (mV X W x.v)) (ho : PE X e (mO X W x.o)) (hr : PA X es (mA X W (args io.tail xs))) (hs : starEach (e :: es) X.env = (false, eval e X.env) :: starEach es X.env) :
    PA X (e :: es) (mA X W (args io (x :: xs))) := by
  refine PA_imp (pa_cons (sm_argM io hv ho) hr hs) fun σ H Q ⟨F, fr, f, q⟩ => ⟨F, fr, f, ?_⟩
  have e1 : args io (x :: xs) = bnd (argM io x) fun x => bnd (args io.tail xs) fun xs => ret (x :: xs) := by
    cases io with
    | nil => rfl
    | cons b r => cases b <;> rfl
  rw [e1] at q
  refine Fin.bnd' f (.refl f) _ _ q fun o v H1 F1 fr1 n1 r1 g1 q1 => ⟨F1, fr1, n1.fm, Fin.bnd' f n1 _ _ q1 fun os vs H2 F2 fr2 n2 r2 g2 q2 =>
    q2 _ H2 F2 (n1.trans f n2) ⟨Paired.cons (n2.ro n1.fm r1) r2.1, ?_, r2.2⟩ (Paired.cons g1 (ante_FromOs.ok n1 g2))⟩
  rintro a ⟨ds, rfl, rfl⟩ t
  obtain ⟨b, ws, eb, hb, _, _, no, _⟩ := r1
  cases eb
  exact (tmps_from g2 t).elim no fun z => by rw [hb] at z; cases z
/-- a call -/
theorem sm_call {k : Nat} {fa : Addr} {fd : FuncData} {ps : List Str} {c : List Slot → COut} {n : Nat} {x : Str} {p : Pos} {e : Expr} {es : List Expr} {m : M (List Opd)}
    (Fk : FnOk X.prog X.w X.K X.mg X.base (L2.CX X.prog X.w) k fa fd ps (spF X.K X.mg c n)) (tk : Takes X W) (hr : Room k X.A) (hg : Gl X x) (hm : X.mg x = some (.ref fa)) (hk : PySem.W.keepIn X.K (.ref fa) = true) (hb : Binds X.K fd ps [])
    (hc : ∀ as, c as ≠ .bad → as.length = n)
    (ha : PA X (e :: es) (mA X W m)) (hdb : (x == ("__debug__" : Str)) = false) (he : starEach (e :: es) X.env = (false, eval e X.env) :: starEach es X.env) (hpl : (backTo pos (starEach es X.env)).any (·.1) = false) :
    PE X (.Call (.Name x p) (e :: es) [] pos) (mV X W (bnd m fun os => callM c os)) := by
  refine PE_imp (pe_callSD (dvs := []) (ds := []) (E := WE W) Fk hr hg hm hk hb .nil (fun σ => passAt tk σ) ha hdb he hpl) fun σ H Q ⟨F, fr, f, q⟩ => ⟨F, fr, f, ?_⟩
  refine Fin.bnd' f (.refl f) _ _ q fun os vs H1 F1 fr1 n1 r1 g1 q1 => ?_
  obtain ⟨ss, fr2, e2, tw, o1, o2, o3, o4, o5, o6⟩ := takes_ok n1.fm r1.1 r1.2
  unfold callM at q1
  simp only [MP.bnd, e2, bndO] at q1
  have len : ss.length = vs.length := by have := tw.b.len; simpa using this
  rw [List.append_nil]
  cases y : c ss with
  | bad => rw [y] at q1; exact q1.elim
  | ok s ps =>
    rw [y] at q1
    refine ⟨by rw [← len]; exact hc ss (by rw [y]; intro z; cases z), F1, ss, tw.b, ?_⟩
    rw [y]
    intro r H' F' nn rr gg
    obtain ⟨nx, o7, o8⟩ := call_nx f n1 r1.1 g1 tw o3 o4 o5 o6 nn
    refine q1 r H' F' nx ?_ ?_
    · cases s with
      | un => trivial
      | val d => exact rr
      | lk d => exact rr
      | own ds =>
        obtain ⟨a, ws, ea, h, q, nf, no, nl⟩ := rr
        have key : ¬ Hd fr2 σ a := fun hd => by
          rcases gg ds a rfl ea with z | z
          · exact tw.x a hd (hd_iff.mpr (.inl z))
          · rcases hd_iff.mp hd with o | o
            · obtain ⟨⟨_, e⟩, _⟩ := tw.a.own o
              rw [z] at e; cases e
            · obtain ⟨⟨_, e⟩, _⟩ := tw.a.lok o
              rw [z] at e; cases e
        exact ⟨a, ws, ea, h, q, nf, fun o => (o7 a o).elim (fun o => key (hd_iff.mpr (.inl o))) no, fun o => (o8 a o).elim (fun o => key (hd_iff.mpr (.inr o))) nl⟩
    · intro ds a es er
      rcases gg ds a es er with z | z
      · rcases o3 a z with z | z
        · exact .inl (n1.own a z)
        · exact tmps_from g1 z
      · right
        by_cases q : H a = none
        · exact q
        · exact absurd z (n1.trk a q)
  | ex x ps =>
    rw [y] at q1
    refine ⟨by rw [← len]; exact hc ss (by rw [y]; intro z; cases z), F1, ss, tw.b, ?_⟩
    rw [y]
    intro c d H' F' nn rx
    exact q1 c d H' F' (call_nx f n1 r1.1 g1 tw o3 o4 o5 o6 nn).1 rx
end
end MP

/-! MP: statements, read. -/
namespace MP
open PySem PySem.Spec PyProof.Rows L2
def SRes (K : PySem.W.Frag) (mg : Str → Option Value) (W : WX) (kp : Nat → Bool) (σ : Sg) (H : Hp) (F : FS) (fr : Fr) (o : SOut) (D : Ends) : Prop := match o with
  | .nx fr' => ∀ σ' H' F', Ns K kp σ H F fr σ' H' F' fr' → D.nx σ' H'
  | .bk fr' => ∀ σ' H' F', Ns K kp σ H F fr σ' H' F' fr' → D.bk σ' H'
  | .ct fr' => ∀ σ' H' F', Ns K kp σ H F fr σ' H' F' fr' → D.ct σ' H'
  | .rt s fr' => ∀ σ' H' F' v, Ns K kp σ H F fr σ' H' F' fr' → RS K σ' H' F' fr' s v → From σ H fr s v → D.rt v H'
  | .ex x fr' => ∀ c d σ' H' F', Ns K kp σ H F fr σ' H' F' fr' → RX K mg H' F' x c d → W c d σ' H'
  | .bad => False
def SmS (X : Cx) (W : WX) (kp : Nat → Bool) (f : Fr → SOut) : TS := fun D σ H => ∃ F fr, Fm X.K H F fr σ ∧ SRes X.K X.mg W kp σ H F fr (f fr) D
section
variable {K : PySem.W.Frag} {mg : Str → Option Value} {W : WX} {kp kp' : Nat → Bool} {H H1 H2 : Hp} {F F1 F2 : FS} {fr fr1 fr2 : Fr} {σ σ1 σ2 : Sg} {DD : Ends} {α ρ : Type}
theorem Ns.from (n : Ns K kp σ H F fr σ1 H1 F1 fr1) {s : Slot} {v : V} (h : From σ1 H1 fr1 s v) : From σ H fr s v := fun ds a e1 e2 => (h ds a e1 e2).elim (n.own a) fun z => .inr (by
  by_cases q : H a = none
  · exact q
  · exact absurd z (n.trk a q))
theorem Ns.weak (n : Ns K kp σ H F fr σ1 H1 F1 fr1) (h : ∀ i, kp' i = true → kp i = true) : Ns K kp' σ H F fr σ1 H1 F1 fr1 :=
  ⟨n.fm, n.sub, n.trk, n.keep, n.nof, n.own, n.lok, fun i hi => n.kpt i (h i hi), n.len, fun i hi => n.kown i (h i hi), fun i hi => n.khld i (h i hi)⟩
theorem SRes.rebase (n : Ns K kp σ H F fr σ1 H1 F1 fr1) {o : SOut} (h : SRes K mg W kp σ H F fr o DD) : SRes K mg W kp σ1 H1 F1 fr1 o DD := by
  cases o with
  | nx fr' => exact fun σ' H' F' m => h σ' H' F' (n.trans m)
  | bk fr' => exact fun σ' H' F' m => h σ' H' F' (n.trans m)
  | ct fr' => exact fun σ' H' F' m => h σ' H' F' (n.trans m)
  | rt s fr' => exact fun σ' H' F' v m r g => h σ' H' F' v (n.trans m) r (n.from g)
  | ex x fr' => exact fun c d σ' H' F' m r => h c d σ' H' F' (n.trans m) r
  | bad => exact h
theorem SRes.then (n : Ns K kp σ H F fr σ1 H1 F1 fr1) {m : M α} {k : α → Fr → SOut} (R : Rl α ρ) (G : Gn α ρ) (h : SRes K mg W kp σ H F fr (thenS m k fr1) DD) {P : ρ → Hp → Prop}
    (hP : ∀ a r H2 F2 fr2, Nx K σ1 H1 F1 fr1 fr2 H2 F2 → R σ1 H2 F2 fr2 a r → G σ1 H1 fr1 a r → SRes K mg W kp σ H F fr (k a fr2) DD → P r H2) : Fin K mg W R G σ1 H1 F1 fr1 (m fr1) P := by
  unfold thenS at h
  cases q : m fr1 with
  | bad => rw [q] at h; exact h
  | ex x fr2 => rw [q] at h; exact fun c d H' F' n2 hx => h c d σ1 H' F' (n.trans n2.ns) hx
  | ok a fr2 => rw [q] at h; exact fun r H' F' n2 hr hg => hP a r H' F' fr2 n2 hr hg h
theorem thenS_bnd {β : Type} (m : M α) (k : α → M β) (g : β → Fr → SOut) : thenS (bnd m k) g = thenS m fun a => thenS (k a) g := by
  funext fr
  unfold thenS bnd
  cases m fr <;> rfl
theorem SRes.rdO {o : Opd} {v : V} {k : D → Fr → SOut} (f : Fm K H1 F1 fr1 σ1) (r : RO K σ1 H1 F1 fr1 o v) (h : SRes K mg W kp σ H F fr (thenS (MP.rdO o) k fr1) DD) : ∃ d, RB K H1 F1 v d ∧ SRes K mg W kp σ H F fr (k d fr1) DD := by
  unfold thenS at h
  cases q : MP.rdO o fr1 with
  | bad => rw [q] at h; exact h.elim
  | ex x fr' =>
    exfalso
    cases o with
    | «at» i => cases y : (fr1.sl i).d? <;> simp [MP.rdO, MP.opt, y, MP.ret, MP.bad] at q
    | sl s => cases y : s.d? <;> simp [MP.rdO, MP.opt, y, MP.ret, MP.bad] at q
  | ok d fr' =>
    rw [q] at h
    obtain ⟨rfl, rb⟩ := rdO_ok f r q
    exact ⟨d, rb, h⟩
theorem SRes.opt {o : Option α} {k : α → Fr → SOut} (h : SRes K mg W kp σ H F fr (thenS (MP.opt o) k fr1) DD) : ∃ d, o = some d ∧ SRes K mg W kp σ H F fr (k d fr1) DD := by
  cases o with
  | none => exact h.elim
  | some d => exact ⟨d, rfl, h⟩
mutual
theorem asgT_nex : ∀ (t : Tg) (d : MP.D) (fr : Fr) (x : Exn) (fr' : Fr), asgT t d fr ≠ .ex x fr'
  | .v i, d, fr, x, fr' => fun h => by cases h
  | .tup ts, d, fr, x, fr' => fun h => by
    cases d with
    | tup ds => exact asgTs_nex ts ds fr x fr' h
    | _ => cases h
theorem asgTs_nex : ∀ (t : List Tg) (d : List MP.D) (fr : Fr) (x : Exn) (fr' : Fr), asgTs t d fr ≠ .ex x fr'
  | [], [], fr, x, fr' => fun h => by cases h
  | [], _ :: _, fr, x, fr' => fun h => by cases h
  | _ :: _, [], fr, x, fr' => fun h => by cases h
  | t :: ts, d :: ds, fr, x, fr' => fun h => by
    have h : bnd (asgT t d) (fun _ => asgTs ts ds) fr = .ex x fr' := h
    unfold bnd at h
    cases e : asgT t d fr with
    | ok u fr1 => rw [e] at h; exact asgTs_nex ts ds fr1 x fr' h
    | ex y fr1 => exact asgT_nex t d fr y fr1 e
    | bad => rw [e] at h; cases h
end
end
section
variable {X : Cx} {W : WX} {kp : Nat → Bool} {pos : Pos} {st : Stmt} {σ : Sg} {H : Hp}
theorem PS_impL {t t' : TS} (h : PS X st t) (i : ∀ D σ H, σ.length = X.N.length → t' D σ H → t D σ H) : PS X st t' := ⟨fun pins s σ H Q I q => h.run pins s σ H Q I (i Q σ H I.len q)⟩
theorem s_nil : PSs X [] (SmS X W kp fun fr => .nx fr) := PSs_imp pss_nil fun D σ H ⟨F, fr, f, q⟩ => q σ H F (.refl f)
theorem s_cons {sts : List Stmt} {a b : Fr → SOut} (h1 : PS X st (SmS X W kp a)) (h2 : PSs X sts (SmS X W kp b)) : PSs X (st :: sts) (SmS X W kp fun fr => seqS (a fr) b) := by
  refine PSs_imp (pss_cons h1 h2) fun D σ H ⟨F, fr, f, q⟩ => ⟨F, fr, f, ?_⟩
  have q : SRes X.K X.mg W kp σ H F fr (seqS (a fr) b) D := q
  cases e : a fr with
  | nx fr' => rw [e] at q; exact fun σ' H' F' n => ⟨F', fr', n.fm, SRes.rebase n q⟩
  | bk fr' => rw [e] at q; exact q
  | ct fr' => rw [e] at q; exact q
  | rt s fr' => rw [e] at q; exact q
  | ex x fr' => rw [e] at q; exact q
  | bad => rw [e] at q; exact q
theorem s_asg {i : Nat} {m : M Slot} (hi : i < X.N.length) (hk : kp i = false) (h : PS X st (tAsg (mV X W m) (gName i))) : PS X st (SmS X W kp (thenS m fun s fr => .nx (fr.set i s))) :=
  PS_impL h fun D σ H hl ⟨F, fr, f, q⟩ => ⟨F, fr, f, SRes.then (.refl f) _ _ q fun s v H1 F1 fr1 n1 r1 g1 q1 => q1 _ H1 F1 (Ns.store n1.ns (by rw [n1.fm.len, hl]; exact hi) r1 g1 hk)⟩
theorem s_asgT {ts : List Tg} {m : M Opd} (hk : ∀ i ∈ Tg.vars (.tup ts), kp i = false) (h : PS X st (tAsg (mO X W m) (mG X.K (asgT (.tup ts)) (Tg.vars (.tup ts))))) :
    PS X st (SmS X W kp (thenS (bnd m fun x => bnd (rdO x) fun d => asgT (.tup ts) d) fun _ fr => .nx fr)) := by
  refine PS_imp h fun D σ H ⟨F, fr, f, q⟩ => ⟨F, fr, f, ?_⟩
  rw [thenS_bnd] at q
  refine SRes.then (.refl f) _ _ q fun x v H1 F1 fr1 n1 r1 g1 q1 => ?_
  rw [thenS_bnd] at q1
  obtain ⟨d, rb, q2⟩ := SRes.rdO n1.fm r1 q1
  refine ⟨F1, fr1, d, n1.fm, ?_, ?_⟩
  · rcases rb with rb | ⟨a, vs, ds, _, rfl, _⟩
    · exact rb
    · exact q2.elim
  · unfold thenS at q2
    cases e : asgT (.tup ts) d fr1 with
    | bad => rw [e] at q2; exact q2
    | ex x fr2 => exact (asgT_nex _ _ _ _ _ e).elim
    | ok u fr2 => rw [e] at q2; exact fun σ' st => q2 σ' H1 F1 (n1.ns.trans (st.ns hk))
theorem s_par {i j : Nat} {m : M (List MP.D)} (hi : i < X.N.length) (hj : j < X.N.length) (ki : kp i = false) (kj : kp j = false) (h : PS X st (tPar i j (mDs X W m))) :
    PS X st (SmS X W kp (thenS m fun ds fr => if ds.length = [i, j].length then .nx (sets [i, j] ds fr) else .bad)) := by
  refine PS_impL h fun D σ H hl ⟨F, fr, f, q⟩ => ⟨F, fr, f, SRes.then (.refl f) _ _ q fun ds vs H1 F1 fr1 n1 r1 g1 q1 => ?_⟩
  split at q1
  case isFalse => exact q1.elim
  rename_i hd
  have r1 : Reps X.K H1 F1 vs ds := r1
  match ds, vs, r1, hd with
  | [d, e], _, .cons (v := v) (vs := [w]) rv (.cons rw .nil), _ =>
    refine ⟨v, w, rfl, q1 _ H1 F1 ?_⟩
    have s1 := Ns.store (s := .val d) (n1.ns (kp := kp)) (i := i) (by rw [n1.fm.len, hl]; exact hi) rv (fun _ _ z => by cases z) ki
    exact Ns.store (s := .val e) s1 (i := j) (by rw [List.length_set, n1.fm.len, hl]; exact hj) rw (fun _ _ z => by cases z) kj
theorem s_par3 {i j l : Nat} {m : M (List MP.D)} (hi : i < X.N.length) (hj : j < X.N.length) (hl3 : l < X.N.length) (ki : kp i = false) (kj : kp j = false) (kl : kp l = false) (h : PS X st (tPar3 i j l (mDs X W m))) :
    PS X st (SmS X W kp (thenS m fun ds fr => if ds.length = [i, j, l].length then .nx (sets [i, j, l] ds fr) else .bad)) := by
  refine PS_impL h fun D σ H hl ⟨F, fr, f, q⟩ => ⟨F, fr, f, SRes.then (.refl f) _ _ q fun ds vs H1 F1 fr1 n1 r1 g1 q1 => ?_⟩
  split at q1
  case isFalse => exact q1.elim
  rename_i hd
  have r1 : Reps X.K H1 F1 vs ds := r1
  match ds, vs, r1, hd with
  | [d, e, g], _, .cons (v := v) (vs := [w, u]) rv (.cons rw (.cons ru .nil)), _ =>
    refine ⟨v, w, u, rfl, q1 _ H1 F1 ?_⟩
    have s1 := Ns.store (s := .val d) (n1.ns (kp := kp)) (i := i) (by rw [n1.fm.len, hl]; exact hi) rv (fun _ _ z => by cases z) ki
    have s2 := Ns.store (s := .val e) s1 (i := j) (by rw [List.length_set, n1.fm.len, hl]; exact hj) rw (fun _ _ z => by cases z) kj
    exact Ns.store (s := .val g) s2 (i := l) (by rw [List.length_set, List.length_set, n1.fm.len, hl]; exact hl3) ru (fun _ _ z => by cases z) kl
theorem s_ex {m : M Slot} (h : PS X st (tDrop (mV X W m))) : PS X st (SmS X W kp (thenS m fun _ fr => .nx fr)) :=
  PS_imp h fun D σ H ⟨F, fr, f, q⟩ => ⟨F, fr, f, SRes.then (.refl f) _ _ q fun s v H1 F1 fr1 n1 r1 g1 q1 => q1 _ H1 F1 n1.ns⟩
theorem s_ite {m : M Bool} {a b : Fr → SOut} (h : PS X st (tIfS (mT X W m) (SmS X W kp a) (SmS X W kp b))) : PS X st (SmS X W kp (thenS m fun r fr => if r then a fr else b fr)) := by
  refine PS_imp h fun D σ H ⟨F, fr, f, q⟩ => ⟨F, fr, f, SRes.then (.refl f) _ _ q fun s v H1 F1 fr1 n1 r1 g1 q1 => ?_⟩
  have e : s = v := r1
  subst e
  cases s with
  | true => exact ⟨F1, fr1, n1.fm, SRes.rebase n1.ns q1⟩
  | false => exact ⟨F1, fr1, n1.fm, SRes.rebase n1.ns q1⟩
theorem s_ret {m : M Slot} (h : PS X st (tRet (mV X W m))) : PS X st (SmS X W kp (thenS m fun s fr => .rt s fr)) :=
  PS_imp h fun D σ H ⟨F, fr, f, q⟩ => ⟨F, fr, f, SRes.then (.refl f) _ _ q fun s v H1 F1 fr1 n1 r1 g1 q1 => q1 σ H1 F1 v n1.ns r1 g1⟩
theorem s_retN (h : PS X st tRetN) : PS X st (SmS X W kp fun fr => .rt (.val .non) fr) :=
  PS_imp h fun D σ H ⟨F, fr, f, q⟩ => q σ H F .non (.refl f) .non fun _ _ e => by cases e
theorem s_brk (h : PS X st tBreak) : PS X st (SmS X W kp .bk) := PS_imp h fun D σ H ⟨F, fr, f, q⟩ => q σ H F (.refl f)
theorem s_cont (h : PS X st tCont) : PS X st (SmS X W kp .ct) := PS_imp h fun D σ H ⟨F, fr, f, q⟩ => q σ H F (.refl f)
theorem s_pass (h : PS X st tNext) : PS X st (SmS X W kp .nx) := PS_imp h fun D σ H ⟨F, fr, f, q⟩ => q σ H F (.refl f)
theorem s_never : PS X st (SmS X W kp fun _ => .bad) := ⟨fun _ _ _ _ _ _ ⟨_, _, _, q⟩ => q.elim⟩
/-- a variable is handed on -/
theorem sm_retVar {i : Nat} {e : Expr} (h : PE X e (tVar i)) : PE X e (mV X W fun fr => match fr.sl i with
    | .own xs => .ok (.own xs) (fr.set i .un)
    | _ => cap i fr) := by
  refine ⟨fun pins s σ H Q I ⟨F, fr, f, q⟩ => ?_⟩
  have r := f.rep i
  dsimp only at q
  cases y : fr.sl i with
  | own xs =>
    rw [y] at q r
    obtain ⟨a, vs, ex, h1, rr, nf⟩ := r
    refine h.run pins s σ H Q I ⟨_, sv_some ex, q _ H F (Nx.slot f (fun _ h => h) (fun _ h => .inl h) trivial (fun h => by cases h) (fun h => by cases h)) ⟨a, vs, rfl, h1, rr, nf, ?_, ?_⟩ fun ds b _ eb => ?_⟩
    · rintro ⟨j, hj, ej⟩
      rw [set_un_sl] at hj
      split at hj
      · cases hj
      · rename_i ne; exact ne (f.dis i j a (by rw [y]; rfl) (held_own hj) ex ej)
    · rintro ⟨j, hj, ej⟩
      rw [set_un_sl] at hj
      split at hj
      · cases hj
      · rename_i ne; exact ne (f.dis i j a (by rw [y]; rfl) (held_lk hj) ex ej)
    · cases eb; exact .inl ⟨i, by rw [y]; rfl, ex⟩
  | un => rw [y] at q; exact (sm_var (W := W) h).run pins s σ H Q I ⟨F, fr, f, q⟩
  | val _ => rw [y] at q; exact (sm_var (W := W) h).run pins s σ H Q I ⟨F, fr, f, q⟩
  | lk _ => rw [y] at q; exact (sm_var (W := W) h).run pins s σ H Q I ⟨F, fr, f, q⟩
/-- name op= e -/
def rAug (K : PySem.W.Frag) (o : Op) : TIp := fun x y H Q => ∃ F d e s, FT F H ∧ RB K H F x d ∧ RB K H F y e ∧ augop o d e = some s ∧ Prim K H F s Q
theorem ip_aug (o : Op) : PIp X (pyOp o) (rAug X.K o) := by
  intro pins s σ H x y v u Q I rx ry ⟨F, d, e, s', ft, r1, r2, h, p⟩
  unfold augop at h
  split at h <;> cases h
  · cases rb_int r1; cases rb_int r2
    exact iop_add pins s σ H _ _ v u Q I rx ry ⟨_, _, rfl, rfl, p.val ft (.int _)⟩
  · cases rb_int r1; cases rb_int r2
    exact iop_sub pins s σ H _ _ v u Q I rx ry ⟨_, _, rfl, rfl, p.val ft (.int _)⟩
theorem opAt_ok {K : PySem.W.Frag} {F : FS} {fr : Fr} (f : Fm K H F fr σ) (i : Nat) : opAt i fr = .bad ∨ (opAt i fr = .ok (.at i) fr ∧ ∃ v, sv σ i = some v) := by
  have r := f.rep i
  unfold opAt
  cases y : fr.sl i with
  | un => exact .inl rfl
  | val d => rw [y] at r; obtain ⟨x, ex, _⟩ := r; exact .inr ⟨rfl, x, ex⟩
  | own d => rw [y] at r; obtain ⟨a, vs, ex, _⟩ := r; exact .inr ⟨rfl, _, ex⟩
  | lk d => rw [y] at r; obtain ⟨a, vs, ex, _⟩ := r; exact .inr ⟨rfl, _, ex⟩
theorem s_aug {i : Nat} {o : Op} {m : M Opd} (hi : i < X.N.length) (hk : kp i = false) (h : PS X st (tAug i (mO X W m) (rAug X.K o))) :
    PS X st (SmS X W kp (thenS (bnd (opAt i) fun x => bnd m fun y => bnd (rdO x) fun d => bnd (rdO y) fun e => opt (augop o d e)) fun s fr => .nx (fr.set i s))) := by
  refine PS_impL h fun D σ H hl ⟨F, fr, f, q⟩ => ?_
  rw [thenS_bnd] at q
  have key : ∀ v, sv σ i = some v → SRes X.K X.mg W kp σ H F fr (thenS (ret (Opd.at i)) (fun x => thenS (bnd m fun y => bnd (rdO x) fun d => bnd (rdO y) fun e => opt (augop o d e)) fun s fr => .nx (fr.set i s)) fr) D → tAug i (mO X W m) (rAug X.K o) D σ H := fun v hv q => by
    have q : SRes X.K X.mg W kp σ H F fr (thenS (bnd m fun y => bnd (rdO (.at i)) fun d => bnd (rdO y) fun e => opt (augop o d e)) (fun s fr => .nx (fr.set i s)) fr) D := q
    rw [thenS_bnd] at q
    refine ⟨v, sv_some hv, F, fr, f, SRes.then (.refl f) _ _ q fun y w H1 F1 fr1 n1 r1 g1 q1 => ?_⟩
    rw [thenS_bnd] at q1
    obtain ⟨d, rb, q2⟩ := SRes.rdO (v := v) n1.fm (o := .at i) hv q1
    rw [thenS_bnd] at q2
    obtain ⟨e, rb2, q3⟩ := SRes.rdO n1.fm r1 q2
    obtain ⟨s, es, q4⟩ := SRes.opt q3
    refine ⟨F1, d, e, s, n1.fm.ft, rb, rb2, es, fun z H' F' g r => ?_⟩
    have nx := g.nx n1.fm
    exact q4 _ H' F' (Ns.store ((n1.trans f nx).ns) (by rw [n1.fm.len, hl]; exact hi) (r.rs g n1.fm).1 (ante_From.ok n1 (r.rs g n1.fm).2) hk)
  rcases opAt_ok f i with e | ⟨e, v, hv⟩
  · unfold thenS at q; rw [e] at q; exact q.elim
  · exact key v hv (by unfold thenS at q ⊢; rw [e] at q; exact q)
end
end MP

/-! MP: loops, item stores. -/
namespace MP
open PySem PySem.Spec PyProof.Rows L2
section
variable {K : PySem.W.Frag} {mg : Str → Option Value} {W : WX} {kp kp' : Nat → Bool} {H H1 H2 : Hp} {F F1 F2 : FS} {fr fr1 fr2 : Fr} {σ σ1 σ2 : Sg} {DD : Ends} {α ρ : Type}
theorem unlk_held : ∀ (l : List Nat) (fr : Fr) (j : Nat), (Fr.sl (unlk l fr) j).isHeld = (fr.sl j).isHeld
  | [], _, _ => rfl
  | i :: r, fr, j => by rw [unlk_cons, unlk_held r, unl_held]
theorem RS.unlk {l : List Nat} {s : Slot} {v : V} (r : RS K σ H F fr s v) : RS K σ H F (MP.unlk l fr) s v := by
  cases s with
  | un => trivial
  | val d => exact r
  | lk d => exact r
  | own ds =>
    obtain ⟨a, vs, e, h, q, nf, no, nl⟩ := r
    have key : ¬ Hd (MP.unlk l fr) σ a := fun ⟨j, hj, ej⟩ => by
      rw [unlk_held] at hj
      exact (hd_iff.mp ⟨j, hj, ej⟩).elim no nl
    exact ⟨a, vs, e, h, q, nf, fun o => key (hd_iff.mpr (.inl o)), fun o => key (hd_iff.mpr (.inr o))⟩
theorem SRes.ownAt {i : Nat} {k : Unit → Fr → SOut} (f : Fm K H1 F1 fr1 σ1) (h : SRes K mg W kp σ H F fr (thenS (MP.ownAt i) k fr1) DD) : ∃ ds a vs, fr1.sl i = .own ds ∧ sv σ1 i = some (.ref a) ∧ H1 a = some (.lst vs) ∧ Reps K H1 F1 vs ds ∧ SRes K mg W kp σ H F fr (k () fr1) DD := by
  unfold thenS MP.ownAt at h
  have r := f.rep i
  cases y : fr1.sl i with
  | own ds =>
    rw [y] at h r
    obtain ⟨a, vs, ex, h1, q, _⟩ := r
    exact ⟨ds, a, vs, rfl, ex, h1, q, h⟩
  | _ => rw [y] at h; exact h.elim
theorem SRes.chg {i : Nat} {g : List D → Option (Slot × List D)} {k : Slot → Fr → SOut} (f : Fm K H1 F1 fr1 σ1) (h : SRes K mg W kp σ H F fr (thenS (MP.chg i g) k fr1) DD) : ∃ ds a vs s ys, fr1.sl i = .own ds ∧ sv σ1 i = some (.ref a) ∧ H1 a = some (.lst vs) ∧ Reps K H1 F1 vs ds ∧ g ds = some (s, ys) ∧ SRes K mg W kp σ H F fr (k s (fr1.set i (.own ys))) DD := by
  unfold thenS MP.chg at h
  have r := f.rep i
  cases y : fr1.sl i with
  | own ds =>
    rw [y] at h r
    obtain ⟨a, vs, ex, h1, q, _⟩ := r
    cases e : g ds with
    | none => simp only [e] at h; exact h.elim
    | some p =>
      simp only [e] at h
      exact ⟨ds, a, vs, p.1, p.2, rfl, ex, h1, q, e, h⟩
  | _ => rw [y] at h; exact h.elim
end
section
variable {X : Cx} {W : WX} {kp : Nat → Bool} {pos : Pos} {st : Stmt} {σ : Sg} {H : Hp}
theorem s_setix {i : Nat} {me : M Slot} {mk : M Opd} (h : PS X st (tAsg (mD X W (fz me)) (gSub (tVar i) (mO X W mk) rSetL))) :
    PS X st (SmS X W kp (thenS (bnd (fz me) fun d => bnd (ownAt i) fun _ => bnd mk fun y => bnd (rdO y) fun kd => setAt i d kd) fun _ fr => .nx fr)) := by
  refine PS_imp h fun D σ H ⟨F, fr, f, q⟩ => ⟨F, fr, f, ?_⟩
  rw [thenS_bnd] at q
  refine SRes.then (.refl f) _ _ q fun d v H1 F1 fr1 n1 r1 g1 q1 => ?_
  rw [thenS_bnd] at q1
  obtain ⟨ds, a, vs, e1, ea, ha, rr, q2⟩ := SRes.ownAt n1.fm q1
  rw [thenS_bnd] at q2
  refine ⟨.ref a, sv_some ea, F1, fr1, n1.fm, SRes.then n1.ns _ _ q2 fun y w H2 F2 fr2 n2 r2 g2 q3 => ?_⟩
  rw [thenS_bnd] at q3
  obtain ⟨kd, rb, q4⟩ := SRes.rdO n2.fm r2 q3
  unfold setAt at q4
  cases kd with
  | int n =>
    obtain ⟨ds2, a2, vs2, s, ys, e2, ea2, ha2, rr2, eg, q5⟩ := SRes.chg n2.fm q4
    have : a2 = a := by rw [ea] at ea2; cases ea2; rfl
    subst this
    cases ej : ixN ds2.length n with
    | none => rw [ej] at eg; cases eg
    | some j =>
      rw [ej] at eg
      cases eg
      refine ⟨_, vs2, n, j, rfl, rb_int rb, ha2, by rw [rr2.length]; exact ej, ?_⟩
      have r1' : Rep X.K H2 F2 v d := n2.rep n1.fm r1
      have m := Nx.chg n2.fm e2 ea (rr2.set j r1')
      exact q5 σ _ F2 ((n1.trans f (n2.trans n1.fm m)).ns)
  | _ => exact q4.elim
/-- while -/
theorem s_whl {mc : M Bool} {body : Fr → SOut} {wn : Nat} (h : PS X st (tWhile (mT X W mc) (SmS X W kp body))) : PS X st (SmS X W kp (whlL mc body wn)) := by
  refine PS_imp h fun D σ H ⟨F, fr, f, q⟩ => ⟨fun m σ' H' => ∃ F' fr', Ns X.K kp σ H F fr σ' H' F' fr' ∧ SRes X.K X.mg W kp σ H F fr (whlL mc body m fr') D, ⟨wn, F, fr, .refl f, q⟩, ?_⟩
  rintro m σ1 H1 ⟨F1, fr1, n1, q1⟩
  cases m with
  | zero => exact q1.elim
  | succ m =>
    refine ⟨F1, fr1, n1.fm, SRes.then n1 _ _ q1 fun b b' H2 F2 fr2 n2 r2 g2 q2 => ?_⟩
    have e : b = b' := r2
    subst e
    cases b with
    | false => exact q2 _ _ _ (n1.trans n2.ns)
    | true =>
      refine ⟨fun σ' H' => ∃ F' fr', Ns X.K kp σ H F fr σ' H' F' fr' ∧ SRes X.K X.mg W kp σ H F fr (whlL mc body m fr') D, fun σ' H' z => ⟨m, Nat.lt_succ_self m, z⟩, F2, fr2, n2.fm, ?_⟩
      have n12 := n1.trans (n2.ns (kp := kp))
      have q2 : SRes X.K X.mg W kp σ H F fr (match body fr2 with
        | .nx fr' => whlL mc body m fr'
        | .ct fr' => whlL mc body m fr'
        | .bk fr' => .nx fr'
        | o => o) D := q2
      cases e : body fr2 with
      | nx fr3 => rw [e] at q2; exact fun σ' H' F' n => ⟨F', fr3, n12.trans n, q2⟩
      | ct fr3 => rw [e] at q2; exact fun σ' H' F' n => ⟨F', fr3, n12.trans n, q2⟩
      | bk fr3 => rw [e] at q2; exact fun σ' H' F' n => q2 σ' H' F' (n12.trans n)
      | rt s fr3 => rw [e] at q2; exact fun σ' H' F' v n r g => q2 σ' H' F' v (n12.trans n) r (n12.from g)
      | ex x fr3 => rw [e] at q2; exact fun c d σ' H' F' n r => q2 c d σ' H' F' (n12.trans n) r
      | bad => rw [e] at q2; exact q2
/-- for -/
theorem s_for {t : Tg} {mi : M Itm} {body : Fr → SOut} {kp' : Nat → Bool} (hkp : ∀ i, kp i = true → kp' i = true) (ht : ∀ i ∈ t.vars, kp' i = false) (hlk : ∀ fr p fr', mi fr = .ok p fr' → ∀ i ∈ p.2, kp' i = true)
    (h : PS X st (tFor (mI X W mi) (mG X.K (asgT t) t.vars) (SmS X W kp' body))) :
    PS X st (SmS X W kp (thenS mi fun p fr => onFr (unlk p.2) (forL (asgT t) body p.1 fr))) := by
  refine PS_imp h fun D σ H ⟨F, fr, f, q⟩ => ⟨F, fr, f, ?_⟩
  unfold thenS at q
  cases em : mi fr with
  | bad => rw [em] at q; exact q
  | ex x fr1 => rw [em] at q; exact fun c d H' F' n2 hx => q c d σ H' F' n2.ns hx
  | ok p fr1 =>
    rw [em] at q
    intro J H1 F1 n1 r1 g1
    have q : SRes X.K X.mg W kp σ H F fr (onFr (unlk p.2) (forL (asgT t) body p.1 fr1)) D := q
    -- the way out
    have out : ∀ {σ' H' F' fr'}, Ns X.K kp' σ H1 F1 fr1 σ' H' F' fr' → Ns X.K kp σ H F fr σ' H' F' (unlk p.2 fr') := fun {σ' H' F' fr'} n =>
      Ns.unlk (n1.ns.trans (n.weak hkp)) fun i hi => ⟨g1 i hi, fun a ea => by
        rw [n.kpt i (hlk fr p fr1 em i hi)] at ea
        exact .inl ⟨i, g1 i hi, ea⟩⟩
    refine ⟨fun i m σ' H' => m = p.1.length - i ∧ i ≤ p.1.length ∧ ∃ F' fr', Ns X.K kp' σ H1 F1 fr1 σ' H' F' fr' ∧ SRes X.K X.mg W kp σ H F fr (onFr (unlk p.2) (forL (asgT t) body (p.1.drop i) fr')) D, ⟨p.1.length, by simp, Nat.zero_le _, F1, fr1, .refl n1.fm, q⟩, ?_⟩
    rintro i m σ2 H2 ⟨rfl, hi, F2, fr2, n2, q2⟩
    obtain ⟨⟨A, hA, wk⟩, _⟩ := r1
    have w := wk H2 F2 (fun a ha => n2.keep a (hA a ha).1 (hA a ha).2) n2.sub (n2.frz n1.fm) n2.fm.ft
    by_cases hlt : i < p.1.length
    · refine .inr ⟨w.1 i hlt, fun σ' H' => p.1.length - (i + 1) = p.1.length - (i + 1) ∧ i + 1 ≤ p.1.length ∧ ∃ F' fr', Ns X.K kp' σ H1 F1 fr1 σ' H' F' fr' ∧ SRes X.K X.mg W kp σ H F fr (onFr (unlk p.2) (forL (asgT t) body (p.1.drop (i + 1)) fr')) D, fun σ' H' z => ⟨_, by omega, z⟩, fun x H3 hy => ?_⟩
      obtain ⟨d, F3, ed, g, rr⟩ := w.2.2 i x H3 hlt hy
      have edrop : p.1.drop i = d :: p.1.drop (i + 1) := by
        rw [List.drop_eq_getElem_cons hlt]
        congr 1
        rw [List.getElem?_eq_getElem hlt] at ed
        exact Option.some.inj ed
      rw [edrop] at q2
      unfold forL thenS at q2
      have n3 := n2.trans (g.nx n2.fm).ns
      refine ⟨F3, fr2, d, n3.fm, rr, ?_⟩
      cases et : asgT t d fr2 with
      | bad => rw [et] at q2; exact q2
      | ex x fr3 => exact (asgT_nex _ _ _ _ _ et).elim
      | ok u fr3 =>
        rw [et] at q2
        intro σ4 st4
        have n4 := n3.trans (st4.ns ht)
        refine ⟨F3, fr3, st4.fm, ?_⟩
        have q2 : SRes X.K X.mg W kp σ H F fr (onFr (unlk p.2) (match body fr3 with
          | .nx fr' => forL (asgT t) body (p.1.drop (i + 1)) fr'
          | .ct fr' => forL (asgT t) body (p.1.drop (i + 1)) fr'
          | .bk fr' => .nx fr'
          | o => o)) D := q2
        cases e : body fr3 with
        | nx fr5 => rw [e] at q2; exact fun σ' H' F' n => ⟨rfl, hlt, F', fr5, n4.trans n, q2⟩
        | ct fr5 => rw [e] at q2; exact fun σ' H' F' n => ⟨rfl, hlt, F', fr5, n4.trans n, q2⟩
        | bk fr5 => rw [e] at q2; exact fun σ' H' F' n => q2 σ' H' F' (out (n4.trans n))
        | rt s fr5 => rw [e] at q2; exact fun σ' H' F' v n r g => q2 σ' H' F' v (out (n4.trans n)) r.unlk (n1.ns (kp := kp) |>.from (n4.from g))
        | ex x fr5 => rw [e] at q2; exact fun c d σ' H' F' n r => q2 c d σ' H' F' (out (n4.trans n)) r
        | bad => rw [e] at q2; exact q2
    · have e : i = p.1.length := by omega
      subst e
      rw [List.drop_eq_nil_of_le (Nat.le_refl _)] at q2
      exact .inl ⟨w.2.1, q2 _ _ _ (out n2)⟩
end
end MP

/-! MP: the checker for expressions. -/
namespace MP
open PySem PySem.Spec PyProof.Rows L2
def plainE : Expr → Bool
  | .Starred .. => false
  | _ => true
def isBO : Expr → Bool
  | .BoolOp .. => true
  | _ => false
def isSli : Expr → Bool
  | .Slice .. => true
  | _ => false
def isComp : Expr → Bool
  | .ListComp .. => true
  | .SetComp .. => true
  | .DictComp .. => true
  | _ => false
def isCall : Expr → Bool
  | .Call .. => true
  | _ => false
def isTup : Expr → Bool
  | .Tuple .. => true
  | _ => false
def isSet : Expr → Bool
  | .Set .. => true
  | _ => false
def E.isEnu : E → Bool
  | .enu _ => true
  | .zip _ => true
  | _ => false
def tgOk (m : E) (tg : Expr) : Bool := !m.isEnu || isTup tg
/-- what the checker knows -/
structure Sc where
  N : List Str
  ns : List (Str × NameKind)
  cl : Option (List (Str × NameKind))
  fns : List Str
  bls : List Str
  glo : List Str
  dct : List Str
def relab (names ns : List (Str × NameKind)) : List (Str × NameKind) := names.map fun (n, k) => if (k == .free && decide (ns.lookup n = some .cell)) then (n, .cell) else (n, k)
def Sc.vis (sc : Sc) (x : Str) : Bool := match sc.ns.lookup x with
  | some .local => true
  | some .cell => true
  | some .free => true
  | _ => false
def Sc.gl (sc : Sc) (x : Str) : Bool := match sc.ns.lookup x with
  | some .globalImplicit => true
  | _ => false
def okNm (x : Str) : Bool := !(x == ("__debug__" : Str)) && !(x == ("__classdict__" : Str))
def Sc.blt (sc : Sc) (x : Str) : Bool := sc.gl x && decide (x ∈ sc.bls)
def Sc.sto (sc : Sc) (x : Str) : Bool := match sc.ns.lookup x with
  | some .local => true
  | some .cell => (match sc.cl with
    | none => true
    | some l => decide (l.lookup x = some .cell))
  | _ => false
def Sc.blk (sc : Sc) (scope : Scope) : Sc := { sc with ns := relab scope.names sc.ns, cl := some scope.names }
def Sc.own (sc : Sc) (own : List Nat) : List (Str × Nat) := own.filterMap fun i => sc.N[i]?.map fun x => (x, i)
mutual
def ckG (sc : Sc) : Tg → Expr → Bool
  | .v i, e => (match e with
    | .Name x _ => decide (sc.N[i]? = some x) && sc.sto x
    | _ => false)
  | .tup ts, e => (match e with
    | .Tuple es _ _ => ckGs sc ts es
    | _ => false)
def ckGs (sc : Sc) : List Tg → List Expr → Bool
  | [], es => es.isEmpty
  | t :: ts, es => (match es with
    | [] => false
    | e :: r => plainE e && ckG sc t e && ckGs sc ts r)
end
def biNm : Bi → String
  | .len => "len" | .abs => "abs" | .int => "int" | .str => "str" | .max => "max" | .min => "min" | .sum => "sum" | .any => "any" | .all => "all" | .list => "list" | .tuple => "tuple" | .sorted => "sorted"
def Mt.isLower : Mt → Bool
  | .lower => true
  | _ => false
def ckK (k : Key) (e : Expr) : Bool := match e with
  | .Constant (.str x) _ _ => decide (k = Sum.inr x)
  | .Constant (.int i) _ _ => decide (k = Sum.inl i)
  | _ => false
def ckKs : List Key → List (Option Expr) → Bool
  | [], es => es.isEmpty
  | k :: ks, es => match es with
    | some e :: r => ckK k e && ckKs ks r
    | _ => false
mutual
def ckE (sc : Sc) : E → Expr → Bool
  | .var i, e => (match e with
    | .Name x _ => decide (sc.N[i]? = some x) && sc.vis x && okNm x
    | _ => false)
  | .int i, e => (match e with
    | .Constant (.int j) _ _ => decide (i = j)
    | _ => false)
  | .str s, e => (match e with
    | .Constant (.str x) _ _ => decide (Str.ofString s = x)
    | _ => false)
  | .bl b, e => (match e with
    | .Constant (.bool c) _ _ => decide (b = c)
    | _ => false)
  | .non, e => (match e with
    | .Constant .none _ _ => true
    | _ => false)
  | .glo g, e => (match e with
    | .Name x _ => decide (sc.glo[g]? = some x) && sc.gl x && okNm x
    | _ => false)
  | .tup es, e => (match e with
    | .Tuple xs _ _ => ckEs sc es xs
    | _ => false)
  | .lst es, e => (match e with
    | .List xs _ => ckEs sc es xs
    | _ => false)
  | .dic ks es, e => (match e with
    | .Dict keys values _ => ckKs ks keys && ckEs sc es values && decide (ks.length = es.length) && decide ks.Nodup && decide (ks.length ≤ 15) && !ks.isEmpty
    | _ => false)
  | .bin o a b, e => (match e with
    | .BinOp x op y _ => decide (pyOp o = op) && ckE sc a x && ckE sc b y
    | _ => false)
  | .neg a, e => (match e with
    | .UnaryOp .USub x _ => ckE sc a x
    | _ => false)
  | .not a, e => (match e with
    | .UnaryOp .Not x _ => ckE sc a x
    | _ => false)
  | .and a b, e => (match e with
    | .BoolOp .And (x :: y :: r) p => ckE sc a x && (match r with
      | [] => ckE sc b y
      | _ => ckE sc b (.BoolOp .And (y :: r) p))
    | _ => false)
  | .or a b, e => (match e with
    | .BoolOp .Or (x :: y :: r) p => ckE sc a x && (match r with
      | [] => ckE sc b y
      | _ => ckE sc b (.BoolOp .Or (y :: r) p))
    | _ => false)
  | .cmp o a b, e => (match e with
    | .Compare x [op] [y] _ => decide (pyCm o = op) && ckE sc a x && ckE sc b y && !isSet y
    | _ => false)
  | .cmp2 o p a b c, e => (match e with
    | .Compare x [op, op2] [y, z] _ => decide (pyCm o = op) && decide (pyCm p = op2) && ckE sc a x && ckE sc b y && ckE sc c z && !isSet z
    | _ => false)
  | .ite c a b, e => (match e with
    | .IfExp x y z _ => ckE sc c x && ckE sc a y && ckE sc b z
    | _ => false)
  | .ix a b, e => (match e with
    | .Subscript x y _ => ckE sc a x && ckE sc b y && !isSli y
    | _ => false)
  | .kix g a, e => (match e with
    | .Subscript (.Name x _) y _ => decide (sc.dct[g]? = some x) && sc.gl x && okNm x && ckE sc a y && !isSli y
    | _ => false)
  | .sl a lo hi, e => (match e with
    | .Subscript x (.Slice l h none _) _ => ckE sc a x && ckO sc lo l && ckO sc hi h
    | _ => false)
  | .rev a, e => (match e with
    | .Subscript x (.Slice none none (some (.UnaryOp .USub (.Constant (.int n) _ _) _)) _) _ => decide (n = 1) && ckE sc a x
    | _ => false)
  | .call f es, e => (match e with
    | .Call (.Name x _) (a :: as) [] _ => decide (sc.fns[f]? = some x) && sc.gl x && okNm x && ckEs sc es (a :: as)
    | _ => false)
  | .bi b es, e => (match e with
    | .Call (.Name x _) (a :: as) [] _ => decide (Str.ofString (biNm b) = x) && sc.blt x && ckEs sc es (a :: as)
    | _ => false)
  | .isi t a, e => (match e with
    | .Call (.Name x _) [y, .Name z _] [] _ => decide (("isinstance" : Str) = x) && decide (Str.ofString (tyN t) = z) && sc.blt x && sc.blt z && ckE sc a y && plainE y
    | _ => false)
  | .mt m o es, e => (match e with
    | .Call (.Attribute y x ap) (a :: as) [] cp => decide (Str.ofString (mtNm m) = x) && !m.isLower && (ap.endLine == cp.line) && !isCall y && decide (as.length < 28) && ckE sc o y && ckEs sc es (a :: as)
    | _ => false)
  | .app i a, e => (match e with
    | .Call (.Attribute (.Name y _) x ap) [z] [] cp => decide (("append" : Str) = x) && (ap.endLine == cp.line) && decide (sc.N[i]? = some y) && sc.vis y && okNm y && plainE z && ckE sc a z
    | _ => false)
  | .ext i a, e => (match e with
    | .Call (.Attribute (.Name y _) x ap) [z] [] cp => decide (("extend" : Str) = x) && (ap.endLine == cp.line) && decide (sc.N[i]? = some y) && sc.vis y && okNm y && plainE z && ckE sc a z
    | _ => false)
  | .pop i, e => (match e with
    | .Call (.Attribute (.Name y _) x ap) [] [] cp => decide (("pop" : Str) = x) && (ap.endLine == cp.line) && decide (sc.N[i]? = some y) && sc.vis y && okNm y
    | _ => false)
  | .revm i, e => (match e with
    | .Call (.Attribute (.Name y _) x ap) [] [] cp => decide (("reverse" : Str) = x) && (ap.endLine == cp.line) && decide (sc.N[i]? = some y) && sc.vis y && okNm y
    | _ => false)
  | .ins _ _ _, _ => false
  | .rng es, e => (match e with
    | .Call (.Name x _) as [] _ => decide (("range" : Str) = x) && sc.blt x && ckEs sc es as && (decide (as.length = 1) || decide (as.length = 2))
    | _ => false)
  | .enu a, e => (match e with
    | .Call (.Name x _) [y] [] _ => decide (("enumerate" : Str) = x) && sc.blt x && plainE y && ckE sc a y
    | _ => false)
  | .zip es, e => (match e with
    | .Call (.Name x _) as [] _ => decide (("zip" : Str) = x) && sc.blt x && ckEs sc es as && decide (as.length = 2)
    | _ => false)
  | .lrng es, e => (match e with
    | .Call (.Name x _) [.Call (.Name y _) as [] _] [] _ => decide (("list" : Str) = x) && decide (("range" : Str) = y) && sc.blt x && sc.blt y && ckEs sc es as && (decide (as.length = 1) || decide (as.length = 2))
    | _ => false)
  | .lc el t it ifs own, e => (match e with
    | .ListComp x [⟨tg, iter, fs, n⟩] scope _ => decide (n = 0) && ckE sc it iter && tgOk it tg && !isSet iter && blkC sc.N ⟨.function, sc.ns, false, false, []⟩ scope (sc.own own) && t.vars.all (fun i => own.contains i) && own.all (fun i => decide (i < sc.N.length)) &&
        ckG (sc.blk scope) t tg && ckEs (sc.blk scope) ifs fs && decide (fs.length ≤ 1) && ckE (sc.blk scope) el x
    | _ => false)
  | .lc2 .., _ => false
  | .fs es, e => (match e with
    | .JoinedStr as _ => ckFs sc es as && decide (2 ≤ as.length)
    | _ => false)
def ckEs (sc : Sc) : List E → List Expr → Bool
  | [], es => es.isEmpty
  | m :: ms, es => (match es with
    | [] => false
    | e :: r => plainE e && ckE sc m e && ckEs sc ms r)
def ckFs (sc : Sc) : List E → List Expr → Bool
  | [], es => es.isEmpty
  | m :: ms, es => (match es with
    | [] => false
    | e :: r => (match e with
      | .FormattedValue v c none _ => decide (c = -1) && ckE sc m v
      | .Constant (.str x) _ _ => (match m with
        | .str s => decide (Str.ofString s = x)
        | _ => false)
      | _ => false) && ckFs sc ms r)
def ckO (sc : Sc) : List E → Option Expr → Bool
  | [], e => e.isNone
  | m :: ms, e => (match e with
    | some e => ckE sc m e && ms.isEmpty
    | none => false)
end
section
variable {env : Env}
theorem star_cons {e : Expr} {es : List Expr} (h : plainE e = true) : starEach (e :: es) env = (false, eval e env) :: starEach es env := by
  cases e <;> first | rfl | cases h
theorem asg_cons {e : Expr} {es : List Expr} (h : plainE e = true) : assignEach (e :: es) env = (false, assign e env) :: assignEach es env := by
  cases e <;> first | rfl | cases h
theorem star_any {pos : Pos} : ∀ {es : List Expr}, es.all plainE = true → (backTo pos (starEach es env)).any (·.1) = false
  | [], _ => rfl
  | e :: es, h => by
    rw [List.all_cons, Bool.and_eq_true] at h
    rw [star_cons h.1]
    have ih := star_any (pos := pos) h.2
    unfold backTo at ih ⊢
    simpa using ih
theorem star_all {pos : Pos} : ∀ {es : List Expr}, es.all plainE = true → (backTo pos (starEach es env)).all (fun x => !x.1) = true
  | [], _ => rfl
  | e :: es, h => by
    rw [List.all_cons, Bool.and_eq_true] at h
    rw [star_cons h.1]
    have ih := star_all (pos := pos) h.2
    unfold backTo at ih ⊢
    simpa using ih
theorem abase {o : Expr} {a : Str} {w : Sem Value} (h : isCall o = false) : attributeBase o a env w = w := by
  cases o <;> first | rfl | cases h
theorem nomark' {op : CmpOp} {e : Expr} (h : isSet e = false) : behindInMarks op e = false := by
  cases e <;> first | rfl | cases h
theorem noset {e : Expr} (h : isSet e = false) (x : Value) : foldedSetIterable e env x = pure x := by
  cases e <;> first | rfl | cases h
theorem plainIx {e : Expr} (h : isSli e = false) : PlainIx e := by
  intro o i
  cases e <;> first | rfl | cases h
theorem noswap {e : Expr} {t : Option Expr} {l : Nat} (h : isComp e = false) : swapsWith e t l env = pure false := by
  cases e <;> first | rfl | cases h
end
/-- what is known of the context -/
structure XF (X : Cx) (W : WX) (sc : Sc) (P : Prg) (cl : Calls) : Prop where
  N : X.N = sc.N
  nd : X.N.Nodup
  ns : X.env.scope.names = sc.ns
  kind : X.env.scope.kind = .function
  calm : X.calm = true
  tk : Takes X W
  po : PassesOwn (model X.prog X.w) X.A X.env X.xe
  fn : ∀ x, (match sc.cl with | none => True | some l => l.lookup x = some .cell) → X.fn x = true
  un : X.A.units + 65 < cLine
  fns : ∀ (f : Nat) (x : Str), sc.fns[f]? = some x → ∃ k fa fd ps n, FnOk X.prog X.w X.K X.mg X.base (L2.CX X.prog X.w) k fa fd ps (spF X.K X.mg (cl f) n) ∧ Room k X.A ∧ X.mg x = some (.ref fa) ∧ PySem.W.keepIn X.K (.ref fa) = true ∧ Binds X.K fd ps [] ∧ ∀ as, cl f as ≠ .bad → as.length = n
  bl : ∀ x ∈ sc.bls, X.mg x = none
  glo : ∀ (g : Nat) (x : Str), sc.glo[g]? = some x → ∃ (u : Value) (v : V) (d : D), X.mg x = some u ∧ RelV v u ∧ P.glo[g]? = some d ∧ ∀ H F, Rep X.K H F v d
  dct : ∀ (g : Nat) (x : Str), sc.dct[g]? = some x → ∃ (a : Addr) (kvs : List (Str × D)), X.mg x = some (.ref a) ∧ P.dct[g]? = some kvs ∧ ∀ z d, look kvs z = some d → ∃ v, KDct X.K X.w a z v ∧ ∀ H F, Rep X.K H F v d
section
variable {X : Cx} {W : WX} {sc : Sc} {P : Prg} {cl : Calls} {x : Str}
theorem XF.gl (F : XF X W sc P cl) (h : sc.gl x = true) : Gl X x := by
  unfold Sc.gl at h
  rw [← F.ns] at h
  show X.env.scope.names.lookup x = _
  split at h
  · assumption
  · cases h
theorem XF.vis (F : XF X W sc P cl) (h : sc.vis x = true) : Vis X.env.scope x := by
  unfold Sc.vis at h
  rw [← F.ns] at h
  split at h
  · exact .inl (by assumption)
  · exact .inr (.inl (by assumption))
  · exact .inr (.inr (by assumption))
  · cases h
theorem XF.blt (F : XF X W sc P cl) (h : sc.blt x = true) : Gl X x ∧ X.mg x = none := by
  unfold Sc.blt at h
  rw [Bool.and_eq_true, decide_eq_true_eq] at h
  exact ⟨F.gl h.1, F.bl _ h.2⟩
theorem okNm1 (h : okNm x = true) : (x == ("__debug__" : Str)) = false ∧ (x == ("__classdict__" : Str)) = false := by
  unfold okNm at h
  simpa using h
theorem XF.sto (F : XF X W sc P cl) (h : sc.sto x = true) : Loc X.env.scope x ∧ (X.fn x = true ∨ X.env.scope.names.lookup x = some .local) := by
  unfold Sc.sto at h
  rw [← F.ns] at h
  split at h
  · rename_i e; exact ⟨.inl e, .inr e⟩
  · rename_i e
    refine ⟨.inr e, .inl (F.fn x ?_)⟩
    split at h
    · trivial
    · exact of_decide_eq_true h
  · cases h
/-- in a block -/
theorem XF.blk (F : XF X W sc P cl) {s : Shared} {H : Hp} {scope : Scope} {C : Addr} {cs : List (Str × Addr)} {fp : List Addr} (hk : scope.kind = .function) : XF (X.blk s H scope (compEnvC scope cs C X.env) fp) W0 (sc.blk scope) P cl where
  N := F.N
  nd := F.nd
  ns := by
    show (relabel scope X.env).names = relab scope.names sc.ns
    unfold relabel relab
    have : (X.env.scope.kind == ScopeKind.function) = true := by rw [F.kind]; rfl
    have e2 : ∀ n, (X.env.kindOf n == some NameKind.cell) = decide (sc.ns.lookup n = some .cell) := fun n => by
      show (X.env.scope.names.lookup n == _) = _
      rw [F.ns]
      generalize sc.ns.lookup n = z
      cases z with
      | none => rfl
      | some k => cases k <;> rfl
    simp only [this, e2, Bool.and_true]
  kind := hk
  calm := F.calm
  tk := takes0
  po := PassesOwn.never
  fn := fun x h => by
    have h : scope.names.lookup x = some .cell := h
    show (scope.names.lookup x == some .cell) = true
    rw [h]; rfl
  un := F.un
  fns := F.fns
  bl := F.bl
  glo := F.glo
  dct := F.dct
end
end MP

/-! MP: what the checker says of expressions. -/
namespace MP
open PySem PySem.Spec PyProof.Rows L2
/-- the readings of a text -/
structure GE (X : Cx) (W : WX) (P : Prg) (cl : Calls) (e : Expr) (m : E) : Prop where
  v : PE X e (mV X W (ev P cl m).v)
  t : PT X e (mT X W (ev P cl m).t)
  o : PE X e (mO X W (ev P cl m).o)
  i : ∀ tg, tgOk m tg = true → PI X tg e (mI X W (ev P cl m).i)
  w : isBO e = true → PW X e (mT X W (ev P cl m).t)
def GEs (X : Cx) (W : WX) (P : Prg) (cl : Calls) : List Expr → List E → Prop
  | [], [] => True
  | e :: es, m :: ms => plainE e = true ∧ GE X W P cl e m ∧ GEs X W P cl es ms
  | _, _ => False
section
variable {X : Cx} {W : WX} {sc : Sc} {P : Prg} {cl : Calls} {e : Expr} {m : E} {es : List Expr} {ms : List E}
theorem pe_badO : PE X e (mO X W bad) := ⟨fun _ _ _ _ _ _ ⟨_, _, _, q⟩ => q.elim⟩
theorem GE.mk1 {v : M Slot} (hm : ev P cl m = Ev.mk1 v) (h : PE X e (mV X W v)) (ht : ∀ whole, isTrue e X.env whole = (do let v ← whole; standAt e.pos; holding [v] (truthy v))) (hb : isBO e = false) : GE X W P cl e m := by
  refine ⟨?_, ?_, ?_, fun tg _ => ?_, fun z => by rw [hb] at z; cases z⟩ <;> rw [hm]
  · exact h
  · exact sm_truth h ht
  · exact sm_op h
  · exact sm_it h
theorem GE.mkT {t : M Bool} (hm : ev P cl m = Ev.mkT t) (h : PE X e (mV X W (bnd t fun b => ret (.val (.bl b))))) (ht : PT X e (mT X W t)) (hb : isBO e = false) : GE X W P cl e m := by
  refine ⟨?_, ?_, ?_, fun tg _ => ?_, fun z => by rw [hb] at z; cases z⟩ <;> rw [hm]
  · exact h
  · exact ht
  · exact sm_op h
  · exact pi_bad
theorem GE.mkI {t : M Itm} (hm : ev P cl m = Ev.mkI t) (h : ∀ tg, tgOk m tg = true → PI X tg e (mI X W t)) (hb : isBO e = false) : GE X W P cl e m := by
  refine ⟨?_, ?_, ?_, fun tg ht => ?_, fun z => by rw [hb] at z; cases z⟩ <;> rw [hm]
  · exact pe_bad
  · exact pt_bad
  · exact pe_badO
  · exact h tg ht
theorem GEs.plain : ∀ {es : List Expr} {ms : List E}, GEs X W P cl es ms → es.all plainE = true
  | [], _, _ => rfl
  | e :: es, [], h => h.elim
  | e :: es, m :: ms, h => by rw [List.all_cons, h.1, GEs.plain h.2.2]; rfl
theorem GEs.vals : ∀ {es : List Expr} {ms : List E}, GEs X W P cl es ms → PA X es (mDs X W (MP.vals (evs P cl ms)))
  | [], [], _ => sm_vals_nil
  | [], _ :: _, h => h.elim
  | _ :: _, [], h => h.elim
  | e :: es, m :: ms, h => sm_vals_cons h.2.1.v (GEs.vals h.2.2) (star_cons h.1)
theorem GEs.opds : ∀ {es : List Expr} {ms : List E}, GEs X W P cl es ms → PA X es (mOs X W (MP.opds (evs P cl ms)))
  | [], [], _ => sm_opds_nil
  | [], _ :: _, h => h.elim
  | _ :: _, [], h => h.elim
  | e :: es, m :: ms, h => sm_opds_cons h.2.1.o (GEs.opds h.2.2) (star_cons h.1)
theorem GEs.args : ∀ {es : List Expr} {ms : List E} (io : List Bool), GEs X W P cl es ms → PA X es (mA X W (MP.args io (evs P cl ms)))
  | [], [], io, _ => sm_args_nil
  | [], _ :: _, _, h => h.elim
  | _ :: _, [], _, h => h.elim
  | e :: es, m :: ms, io, h => sm_args_cons h.2.1.v h.2.1.o (GEs.args io.tail h.2.2) (star_cons h.1)
theorem GEs.inv1 {e : Expr} (h : GEs X W P cl [e] ms) : ∃ m, ms = [m] ∧ plainE e = true ∧ GE X W P cl e m := by
  match ms, h with
  | [m], h => exact ⟨m, rfl, h.1, h.2.1⟩
theorem GEs.inv2 {e f : Expr} (h : GEs X W P cl [e, f] ms) : ∃ m n, ms = [m, n] ∧ plainE e = true ∧ plainE f = true ∧ GE X W P cl e m ∧ GE X W P cl f n := by
  match ms, h with
  | [m, n], h => exact ⟨m, n, rfl, h.1, h.2.2.1, h.2.1, h.2.2.2.1⟩
mutual
theorem ck_g (F : XF X W sc P cl) : ∀ (t : Tg) (e : Expr), ckG sc t e = true → PG X e (mG X.K (asgT t) t.vars)
  | .v i, e, h => by
    unfold ckG at h
    split at h
    · rename_i x p
      rw [Bool.and_eq_true, decide_eq_true_eq] at h
      have hi : X.N[i]? = some x := by rw [F.N]; exact h.1
      have q := F.sto h.2
      exact sm_gname (pg_name F.nd hi q.1 q.2) (List.getElem?_eq_some_iff.mp hi).1
    · cases h
  | .tup ts, e, h => by
    unfold ckG at h
    split at h
    · rename_i es k pos
      obtain ⟨h1, h2, h3, h4⟩ := ck_gs F ts es h
      exact sm_gtup F.calm h1 rfl h2 h3
    · cases h
theorem ck_gs (F : XF X W sc P cl) : ∀ (ts : List Tg) (es : List Expr), ckGs sc ts es = true → PGs X es (mGs X.K (asgTs ts) (Tg.varss ts)) ∧ (assignEach es X.env).findIdx? (·.1) = none ∧ ts.length = (assignEach es X.env).length ∧ True
  | [], es, h => by
    unfold ckGs at h
    cases es with
    | nil => exact ⟨sm_gnil, rfl, rfl, trivial⟩
    | cons _ _ => cases h
  | t :: ts, es, h => by
    unfold ckGs at h
    cases es with
    | nil => cases h
    | cons e es =>
      simp only [Bool.and_eq_true] at h
      obtain ⟨⟨hp, h1⟩, h2⟩ := h
      obtain ⟨g1, g2, g3, _⟩ := ck_gs F ts es h2
      have ea := asg_cons (env := X.env) (es := es) hp
      refine ⟨sm_gcons (ck_g F t e h1) g1 (by rw [ea]; rfl), ?_, by rw [ea]; simp [g3], trivial⟩
      rw [ea, List.findIdx?_cons]
      simp [g2]
end
theorem own_map {own : List Nat} (h : own.all (fun i => decide (i < sc.N.length)) = true) : (sc.own own).map (·.2) = own := by
  unfold Sc.own
  induction own with
  | nil => rfl
  | cons i r ih =>
    rw [List.all_cons, Bool.and_eq_true, decide_eq_true_eq] at h
    have e : sc.N[i]? = some sc.N[i] := List.getElem?_eq_getElem h.1
    rw [List.filterMap_cons, e]
    simpa using ih h.2
theorem BlkOk.names {N : List Str} {s1 s2 scope : Scope} {own : List (Str × Nat)} (h : BlkOk N s1 scope own) (e : s2.names = s1.names) : BlkOk N s2 scope own :=
  ⟨h.kind, h.uniq, h.ix, fun y hy q => by rw [e]; exact h.free y hy q, h.own⟩
end
end MP

/-! MP: what the checker says of expressions: all of them. -/
namespace MP
open PySem PySem.Spec PyProof.Rows L2
theorem lc_pts {X : Cx} {P : Prg} {cl : Calls} : ∀ {fs : List Expr} {ifs : List E}, GEs X W0 P cl fs ifs → fs.length ≤ 1 → PTs X fs (Sm X.K X.mg W0 RT GT (ifsM (evs P cl ifs)))
  | [], [], _, _ => ⟨fun pins s σ H Q I ⟨F, fr, f, q⟩ => pts_nil.run pins s σ H Q I (Fin.done f q rfl trivial)⟩
  | [], _ :: _, h, _ => h.elim
  | [_], [], h, _ => h.elim
  | [e], [m], h, _ => by
    have : ifsM (evs P cl [m]) = (ev P cl m).t := ifs_one _
    rw [this]
    exact pts_one h.2.1.t
  | [_], _ :: _ :: _, h, _ => h.2.2.elim
  | _ :: _ :: _, _, _, h => by simp at h
section
variable {P : Prg} {cl : Calls}
theorem var_of {X : Cx} {W : WX} {sc : Sc} (F : XF X W sc P cl) {i : Nat} {x : Str} {p : Pos} (h1 : sc.N[i]? = some x) (h2 : sc.vis x = true) (h3 : okNm x = true) : PE X (.Name x p) (tVar i) :=
  pe_var (by rw [F.N]; exact h1) (F.vis h2) (okNm1 h3).1 (okNm1 h3).2
theorem evs_len {P : Prg} {cl : Calls} : ∀ es : List E, (evs P cl es).length = es.length
  | [] => rfl
  | e :: es => by
    show (evs P cl es).length + 1 = _
    rw [evs_len es]; rfl
theorem ck_k {X : Cx} {k : Key} {e : Expr} (h : ckK k e = true) : PE X e (tC (kV k)) := by
  unfold ckK at h
  split at h
  · cases of_decide_eq_true h; exact pe_str
  · cases of_decide_eq_true h; exact pe_int
  · cases h
theorem dic_pps {X : Cx} {W : WX} {P : Prg} {cl : Calls} : ∀ (ks : List Key) (keys : List (Option Expr)) (values : List Expr) (es : List E), ckKs ks keys = true → GEs X W P cl values es → ks.length = es.length →
    (∀ pos, PPs X pos keys values (dicT X W ks (evs P cl es))) ∧ (keys.all (·.isSome) = true ∧ keys.length = ks.length) ∧ keys.length = values.length
  | [], keys, values, es, h1, h2, h3 => by
    cases keys with
    | cons _ _ => cases h1
    | nil =>
      cases es with
      | cons _ _ => cases h3
      | nil =>
        cases values with
        | nil => exact ⟨fun _ => pps_nil, ⟨rfl, rfl⟩, rfl⟩
        | cons _ _ => exact h2.elim
  | k :: ks, keys, values, es, h1, h2, h3 => by
    unfold ckKs at h1
    split at h1
    · rename_i e r
      rw [Bool.and_eq_true] at h1
      cases es with
      | nil => cases h3
      | cons m es =>
        cases values with
        | nil => exact h2.elim
        | cons v values =>
          obtain ⟨q1, q2, q3⟩ := dic_pps ks r values es h1.2 h2.2.2 (by simpa using h3)
          exact ⟨fun pos => pps_cons (ck_k h1.1) (sm_fz h2.2.1.v) (q1 pos), ⟨by simpa using q2.1, by simp [q2.2]⟩, by simp [q3]⟩
    · cases h1
/-- f-strings, part by part -/
def RSt : Rl Str Str := fun _ _ _ _ a r => a = r
def FsOk (X : Cx) (W : WX) (P : Prg) (cl : Calls) (es : List Expr) (ms : List E) : Prop := ∃ ts, PJ X es ts ∧ ∀ (acc : Str) (σ : Sg) (H : Hp) (F : FS) (fr : Fr) (Q : Str → Hp → Prop), Fm X.K H F fr σ → Fin X.K X.mg W RSt GT σ H F fr (fsM (evs P cl ms) acc fr) Q → tJs ts acc σ H Q
theorem fs_nil {X : Cx} {W : WX} : FsOk X W P cl [] [] := ⟨[], .nil, fun acc σ H F fr Q f q => Fin.done f q rfl trivial⟩
theorem fs_fmt {X : Cx} {W : WX} {v : Expr} {p : Pos} {m : E} {es : List Expr} {ms : List E} (h : PE X v (mV X W (ev P cl m).v)) (ih : FsOk X W P cl es ms) : FsOk X W P cl (.FormattedValue v (-1) none p :: es) (m :: ms) := by
  obtain ⟨ts, pj, run⟩ := ih
  refine ⟨_, .cons (pe_fmt (sm_fz h)) pj, fun acc σ H F fr Q f q => ?_⟩
  refine ⟨F, fr, f, Fin.bnd f ante_T (RD X.K) GT q fun d v H1 F1 fr1 n1 r1 g1 q1 => ?_⟩
  obtain ⟨z, ez, q2⟩ := Fin.opt q1
  have r1 : Rep X.K H1 F1 v d := r1
  split at q2
  · rename_i hz
    cases r1 with
    | str y =>
      obtain ⟨c, rfl⟩ := when_some (show when (decide (y.length ≤ sizeLine)) y = some z from ez)
      exact .inl ⟨y, rfl, of_decide_eq_true c, y, rfl, hz, run _ _ _ _ _ _ n1.fm q2⟩
    | int i =>
      obtain ⟨c, rfl⟩ := when_some (show when (decide (i.natAbs.log2 < 1920)) (toString i : Str) = some z from ez)
      exact .inr ⟨i, rfl, of_decide_eq_true c, _, rfl, hz, run _ _ _ _ _ _ n1.fm q2⟩
    | _ => cases ez
  · exact q2.elim
theorem fs_const {X : Cx} {W : WX} {s : String} {k p} {es : List Expr} {ms : List E} (ih : FsOk X W P cl es ms) : FsOk X W P cl (.Constant (.str (Str.ofString s)) k p :: es) (.str s :: ms) := by
  obtain ⟨ts, pj, run⟩ := ih
  refine ⟨_, .cons pe_str pj, fun acc σ H F fr Q f q => ?_⟩
  have q1 : Fin X.K X.mg W RSt GT σ H F fr (bnd (opt (strOf (.str (Str.ofString s)))) (fun x => if (acc ++ x).length ≤ sizeLine then fsM (evs P cl ms) (acc ++ x) else bad) fr) Q := q
  obtain ⟨z, ez, q2⟩ := Fin.opt q1
  obtain ⟨c, rfl⟩ := when_some (show when (decide ((Str.ofString s).length ≤ sizeLine)) (Str.ofString s) = some z from ez)
  split at q2
  · rename_i hz
    exact ⟨_, rfl, hz, run _ _ _ _ _ _ f q2⟩
  · exact q2.elim
/-- a comprehension's parts -/
structure LcP (X : Cx) (W : WX) (P : Prg) (cl : Calls) (el : E) (t : Tg) (it : E) (ifs : List E) (own : List Nat) (ownP : List (Str × Nat)) (x tg iter : Expr) (fs : List Expr) (scope : Scope) : Prop where
  hi : PI X tg iter (mI X W (ev P cl it).i)
  ok : BlkOk X.N X.env.scope scope ownP
  hg : ∀ (s : Shared) (H : Hp) (C : Addr) (cl : List (Str × Addr)) (fp : List Addr), PG (X.blk s H scope (compEnvC scope cl C X.env) fp) tg (mG X.K (asgT t) t.vars)
  ht : ∀ (s : Shared) (H : Hp) (C : Addr) (cs : List (Str × Addr)) (fp : List Addr), PTs (X.blk s H scope (compEnvC scope cs C X.env) fp) fs (Sm X.K X.mg W0 RT GT (ifsM (evs P cl ifs)))
  he : ∀ (s : Shared) (H : Hp) (C : Addr) (cs : List (Str × Addr)) (fp : List Addr), PE (X.blk s H scope (compEnvC scope cs C X.env) fp) x (Sm X.K X.mg W0 (RD X.K) GT (fz (ev P cl el).v))
  hs : ∀ v, foldedSetIterable iter X.env v = pure v
  hv : ∀ i ∈ t.vars, i ∈ own
  hm : ownP.map (·.2) = own
abbrev lcV (P : Prg) (cl : Calls) (el : E) (t : Tg) (it : E) (ifs : List E) (own : List Nat) : M Slot := bnd (lcM own (ev P cl it).i (asgT t) (ifsM (evs P cl ifs)) (bnd (fz (ev P cl el).v) fun d => ret [d])) fun ds => ret (.own ds)
theorem LcP.pe {X : Cx} {W : WX} {sc : Sc} {el : E} {t : Tg} {it : E} {ifs : List E} {own : List Nat} {ownP : List (Str × Nat)} {x tg iter : Expr} {fs : List Expr} {scope : Scope} {pos : Pos} (l : LcP X W P cl el t it ifs own ownP x tg iter fs scope) (F : XF X W sc P cl) :
    PE X (.ListComp x [⟨tg, iter, fs, 0⟩] scope pos) (mV X W (lcV P cl el t it ifs own)) := by
  have hpe := pe_lc (pos := pos) F.calm F.nd l.hi l.ok l.hg l.ht l.he l.hs
  rw [l.hm] at hpe
  exact PE_imp hpe fun σ H Q q => lc_main l.hv σ H Q q
theorem lcP {X : Cx} {W : WX} {sc : Sc} {el : E} {t : Tg} {it : E} {ifs : List E} {own : List Nat} {x tg iter : Expr} {fs : List Expr} {scope : Scope} (F : XF X W sc P cl) (h2 : tgOk it tg = true) (h3 : isSet iter = false) (h4 : blkC sc.N ⟨.function, sc.ns, false, false, []⟩ scope (sc.own own) = true)
    (h5 : t.vars.all (fun i => own.contains i) = true) (h6 : own.all (fun i => decide (i < sc.N.length)) = true) (h7 : ckG (sc.blk scope) t tg = true) (h9 : fs.length ≤ 1) (g1 : GE X W P cl iter it) (g2 : ∀ {X' : Cx}, XF X' W0 (sc.blk scope) P cl → GEs X' W0 P cl fs ifs) (g3 : ∀ {X' : Cx}, XF X' W0 (sc.blk scope) P cl → GE X' W0 P cl x el) :
    LcP X W P cl el t it ifs own (sc.own own) x tg iter fs scope := by
  have ok : BlkOk X.N X.env.scope scope (sc.own own) := by
    rw [F.N]; exact BlkOk.names (blkOk_by h4) F.ns
  exact ⟨g1.i _ h2, ok, fun s H C cs fp => ck_g (F.blk ok.kind) t _ h7, fun s H C cs fp => lc_pts (g2 (F.blk ok.kind)) h9, fun s H C cs fp => sm_fz (g3 (F.blk ok.kind)).v, noset h3, fun i hi => by
    have := List.all_eq_true.mp h5 i hi
    simpa using this, own_map h6⟩
mutual
theorem ck_e : ∀ (m : E) {X : Cx} {W : WX} {sc : Sc} (F : XF X W sc P cl) (e : Expr), ckE sc m e = true → GE X W P cl e m
  | .var i, X, W, sc, F, e, h => by
    unfold ckE at h
    split at h
    · rename_i x p
      simp only [Bool.and_eq_true, decide_eq_true_eq] at h
      have v := var_of F (p := p) h.1.1 h.1.2 h.2
      exact ⟨sm_var v, sm_truthV v (fun _ => rfl), sm_at v, fun tg _ => sm_itv v, fun z => by cases z⟩
    · cases h
  | .int i, X, W, sc, F, e, h => by
    unfold ckE at h
    split at h
    · cases of_decide_eq_true h
      exact .mk1 rfl (sm_const pe_int fun _ _ => .int _) (fun _ => rfl) rfl
    · cases h
  | .str i, X, W, sc, F, e, h => by
    unfold ckE at h
    split at h
    · cases of_decide_eq_true h
      exact .mk1 rfl (sm_const pe_str fun _ _ => .str _) (fun _ => rfl) rfl
    · cases h
  | .bl i, X, W, sc, F, e, h => by
    unfold ckE at h
    split at h
    · cases of_decide_eq_true h
      exact .mk1 rfl (sm_const pe_bl fun _ _ => .bl _) (fun _ => rfl) rfl
    · cases h
  | .non, X, W, sc, F, e, h => by
    unfold ckE at h
    split at h
    · exact .mk1 rfl (sm_const pe_non fun _ _ => .non) (fun _ => rfl) rfl
    · cases h
  | .glo g, X, W, sc, F, e, h => by
    unfold ckE at h
    split at h
    · rename_i x p
      simp only [Bool.and_eq_true, decide_eq_true_eq] at h
      obtain ⟨u, v, d, e1, e2, e3, e4⟩ := F.glo g _ h.1.1
      have q := sm_const (W := W) (pe_glob (pos := p) (F.gl h.1.2) e1 e2 (okNm1 h.2).1) e4
      refine .mk1 (v := ret (.val d)) ?_ q (fun _ => rfl) rfl
      show Ev.mk1 (opt (P.glo[g]?.map .val)) = _
      rw [e3]; rfl
    · cases h
  | .tup es, X, W, sc, F, e, h => by
    unfold ckE at h
    split at h
    · exact .mk1 rfl (sm_tup (ck_es es F _ h).vals) (fun _ => rfl) rfl
    · cases h
  | .lst es, X, W, sc, F, e, h => by
    unfold ckE at h
    split at h
    · exact .mk1 rfl (sm_lst (ck_es es F _ h).vals) (fun _ => rfl) rfl
    · cases h
  | .dic ks es, X, W, sc, F, e, h => by
    unfold ckE at h
    split at h
    · simp only [Bool.and_eq_true, decide_eq_true_eq, Bool.not_eq_true'] at h
      obtain ⟨⟨⟨⟨⟨h1, h2⟩, h3⟩, h4⟩, h5⟩, h6⟩ := h
      obtain ⟨q1, q2, q3⟩ := dic_pps ks _ _ es h1 (ck_es es F _ h2) h3
      exact .mk1 rfl (sm_dic (q1 _) q2.1 q3 (fun z => by
        have := q2.2
        rw [z] at this
        cases ks with
        | nil => cases h6
        | cons _ _ => cases this) (by rw [q2.2]; exact h5) (by rw [evs_len]; exact h3) h5 h4) (fun _ => rfl) rfl
    · cases h
  | .bin o a b, X, W, sc, F, e, h => by
    unfold ckE at h
    split at h
    · simp only [Bool.and_eq_true, decide_eq_true_eq] at h
      obtain ⟨⟨rfl, h2⟩, h3⟩ := h
      exact .mk1 rfl (sm_bin (ck_e a F _ h2).o (ck_e b F _ h3).o) (fun _ => rfl) rfl
    · cases h
  | .neg a, X, W, sc, F, e, h => by
    unfold ckE at h
    split at h
    · exact .mk1 rfl (sm_neg (ck_e a F _ h).o) (fun _ => rfl) rfl
    · cases h
  | .not a, X, W, sc, F, e, h => by
    unfold ckE at h
    split at h
    · have g := ck_e a F _ h
      exact ⟨sm_not g.v, sm_notT g.t, sm_op (sm_not g.v), fun _ _ => pi_bad, fun z => by cases z⟩
    · cases h
  | .and a b, X, W, sc, F, e, h => by
    unfold ckE at h
    split at h
    · rename_i x y r p
      rw [Bool.and_eq_true] at h
      have ga := ck_e a F _ h.1
      have gb : PE X (.BoolOp .And (y :: r) p) (mV X W (ev P cl b).v) ∧ PW X (.BoolOp .And (y :: r) p) (mT X W (ev P cl b).t) := by
        cases r with
        | nil => exact ⟨pe_one (ck_e b F _ h.2).v, pw_and1 (ck_e b F _ h.2).t⟩
        | cons z r => exact ⟨(ck_e b F _ h.2).v, (ck_e b F _ h.2).w rfl⟩
      have w := sm_andT ga.t gb.2
      exact ⟨sm_and ga.v gb.1, w.pt, sm_op (sm_and ga.v gb.1), fun _ _ => pi_bad, fun _ => w⟩
    · cases h
  | .or a b, X, W, sc, F, e, h => by
    unfold ckE at h
    split at h
    · rename_i x y r p
      rw [Bool.and_eq_true] at h
      have ga := ck_e a F _ h.1
      have gb : PE X (.BoolOp .Or (y :: r) p) (mV X W (ev P cl b).v) ∧ PW X (.BoolOp .Or (y :: r) p) (mT X W (ev P cl b).t) := by
        cases r with
        | nil => exact ⟨pe_one (ck_e b F _ h.2).v, pw_or1 (ck_e b F _ h.2).t⟩
        | cons z r => exact ⟨(ck_e b F _ h.2).v, (ck_e b F _ h.2).w rfl⟩
      have w := sm_orT ga.t gb.2
      exact ⟨sm_or ga.v gb.1, w.pt, sm_op (sm_or ga.v gb.1), fun _ _ => pi_bad, fun _ => w⟩
    · cases h
  | .cmp o a b, X, W, sc, F, e, h => by
    unfold ckE at h
    split at h
    · simp only [Bool.and_eq_true, decide_eq_true_eq, Bool.not_eq_true'] at h
      obtain ⟨⟨⟨rfl, h2⟩, h3⟩, h4⟩ := h
      have ga := ck_e a F _ h2
      have gb := ck_e b F _ h3
      exact .mkT rfl (sm_cmp F.un ga.o gb.o (nomark' h4)) (sm_cmpT F.un ga.o gb.o (nomark' h4)) rfl
    · cases h
  | .cmp2 o p a b c, X, W, sc, F, e, h => by
    unfold ckE at h
    split at h
    · simp only [Bool.and_eq_true, decide_eq_true_eq, Bool.not_eq_true'] at h
      obtain ⟨⟨⟨⟨⟨rfl, rfl⟩, h2⟩, h3⟩, h5⟩, h4⟩ := h
      have ga := ck_e a F _ h2
      have gb := ck_e b F _ h3
      have gc := ck_e c F _ h5
      exact .mkT rfl (sm_chain F.un ga.o gb.o gc.o (nomark' h4)) (sm_chainT F.un ga.o gb.o gc.o (nomark' h4)) rfl
    · cases h
  | .ite c a b, X, W, sc, F, e, h => by
    unfold ckE at h
    split at h
    · rename_i x y z p
      simp only [Bool.and_eq_true] at h
      have v := sm_ite (pos := p) (ck_e c F _ h.1.1).t (ck_e a F _ h.1.2).v (ck_e b F _ h.2).v
      exact ⟨v, pt_bad, sm_op v, fun _ _ => sm_it v, fun z => by cases z⟩
    · cases h
  | .ix a b, X, W, sc, F, e, h => by
    unfold ckE at h
    split at h
    · simp only [Bool.and_eq_true, Bool.not_eq_true'] at h
      exact .mk1 rfl (sm_ix F.un (ck_e a F _ h.1.1).o (ck_e b F _ h.1.2).o (plainIx h.2)) (fun _ => rfl) rfl
    · cases h
  | .kix g a, X, W, sc, F, e, h => by
    unfold ckE at h
    split at h
    · rename_i x p y pos
      simp only [Bool.and_eq_true, Bool.not_eq_true', decide_eq_true_eq] at h
      obtain ⟨ad, kvs, e1, e2, e3⟩ := F.dct g _ h.1.1.1.1
      have q := sm_kix (W := W) (p := p) (pos := pos) (F.gl h.1.1.1.2) e1 (okNm1 h.1.1.2).1 (ck_e a F _ h.1.2).o (plainIx h.2) e3
      refine .mk1 ?_ q (fun _ => rfl) rfl
      show Ev.mk1 (bnd (ev P cl a).o fun y => bnd (rdO y) fun d => opt (kixD P.dct[g]? d)) = _
      rw [e2]
    · cases h
  | .sl a lo hi, X, W, sc, F, e, h => by
    unfold ckE at h
    split at h
    · simp only [Bool.and_eq_true] at h
      exact .mk1 rfl (sm_sl (ck_e a F _ h.1.1).o (ck_o lo F _ h.1.2) (ck_o hi F _ h.2)) (fun _ => rfl) rfl
    · cases h
  | .rev a, X, W, sc, F, e, h => by
    unfold ckE at h
    split at h
    · simp only [Bool.and_eq_true, decide_eq_true_eq] at h
      obtain ⟨rfl, h2⟩ := h
      exact .mk1 rfl (sm_rev (ck_e a F _ h2).o) (fun _ => rfl) rfl
    · cases h
  | .call f es, X, W, sc, F, e, h => by
    unfold ckE at h
    split at h
    · simp only [Bool.and_eq_true, decide_eq_true_eq] at h
      obtain ⟨⟨⟨h1, h2⟩, h3⟩, h4⟩ := h
      obtain ⟨k, fa, fd, ps, n, Fk, hr, hm, hk, hb, hc⟩ := F.fns f _ h1
      have g := ck_es es F _ h4
      have pl := g.plain
      rw [List.all_cons, Bool.and_eq_true] at pl
      exact .mk1 rfl (sm_call Fk F.tk hr (F.gl h2) hm hk hb hc (g.args (P.io f)) (okNm1 h3).1 (star_cons pl.1) (star_any pl.2)) (fun _ => rfl) rfl
    · cases h
  | .bi b es, X, W, sc, F, e, h => by
    unfold ckE at h
    split at h
    · simp only [Bool.and_eq_true, decide_eq_true_eq] at h
      obtain ⟨⟨rfl, h2⟩, h4⟩ := h
      have g := ck_es es F _ h4
      have pl := g.plain
      rw [List.all_cons, Bool.and_eq_true] at pl
      have q := F.blt h2
      exact .mk1 rfl (sm_bi F.calm b g.opds q.1 q.2 (by cases b <;> decide +kernel) (by cases b <;> decide +kernel) (by cases b <;> decide +kernel) (star_cons pl.1) (star_any pl.2)) (fun _ => rfl) rfl
    · cases h
  | .isi t a, X, W, sc, F, e, h => by
    unfold ckE at h
    split at h
    · simp only [Bool.and_eq_true, decide_eq_true_eq] at h
      obtain ⟨⟨⟨⟨⟨rfl, rfl⟩, h2⟩, h3⟩, h4⟩, h5⟩ := h
      exact .mk1 rfl (sm_isi t (ck_e a F _ h4).o (F.blt h2).1 (F.blt h2).2 (F.blt h3).1 (F.blt h3).2 (star_cons h5)) (fun _ => rfl) rfl
    · cases h
  | .mt m o es, X, W, sc, F, e, h => by
    unfold ckE at h
    split at h
    · simp only [Bool.and_eq_true, decide_eq_true_eq, Bool.not_eq_true'] at h
      obtain ⟨⟨⟨⟨⟨⟨rfl, h2⟩, h3⟩, h4⟩, h5⟩, h6⟩, h7⟩ := h
      have g := ck_es es F _ h7
      have pl := g.plain
      have pl' := pl
      rw [List.all_cons, Bool.and_eq_true] at pl
      refine .mk1 rfl (sm_mt m (fun z => by rw [z] at h2; cases h2) F.un (ck_e o F _ h6).o g.opds (abase h4) ?_ h3 (star_cons pl.1) (star_any pl.2)) (fun _ => rfl) rfl
      rw [star_all pl']
      simp [keywordEach, backToKw]
      omega
    · cases h
  | .app i a, X, W, sc, F, e, h => by
    unfold ckE at h
    split at h
    · simp only [Bool.and_eq_true, decide_eq_true_eq] at h
      obtain ⟨⟨⟨⟨⟨⟨rfl, h2⟩, h3⟩, h4⟩, h5⟩, h6⟩, h7⟩ := h
      refine .mk1 rfl (sm_app (var_of F h3 h4 h5) (ck_e a F _ h7).v (abase rfl) ?_ h2 (star_cons h6)) (fun _ => rfl) rfl
      rw [star_all (by rw [List.all_cons, h6]; rfl)]
      simp [keywordEach, backToKw]
    · cases h
  | .ext i a, X, W, sc, F, e, h => by
    unfold ckE at h
    split at h
    · simp only [Bool.and_eq_true, decide_eq_true_eq] at h
      obtain ⟨⟨⟨⟨⟨⟨rfl, h2⟩, h3⟩, h4⟩, h5⟩, h6⟩, h7⟩ := h
      refine .mk1 rfl (sm_ext (var_of F h3 h4 h5) (ck_e a F _ h7).o (abase rfl) ?_ h2 (star_cons h6)) (fun _ => rfl) rfl
      rw [star_all (by rw [List.all_cons, h6]; rfl)]
      simp [keywordEach, backToKw]
    · cases h
  | .pop i, X, W, sc, F, e, h => by
    unfold ckE at h
    split at h
    · simp only [Bool.and_eq_true, decide_eq_true_eq] at h
      obtain ⟨⟨⟨⟨rfl, h2⟩, h3⟩, h4⟩, h5⟩ := h
      exact .mk1 rfl (sm_pop (var_of F h3 h4 h5) (abase rfl) h2) (fun _ => rfl) rfl
    · cases h
  | .revm i, X, W, sc, F, e, h => by
    unfold ckE at h
    split at h
    · simp only [Bool.and_eq_true, decide_eq_true_eq] at h
      obtain ⟨⟨⟨⟨rfl, h2⟩, h3⟩, h4⟩, h5⟩ := h
      exact .mk1 rfl (sm_revm (var_of F h3 h4 h5) (abase rfl) h2) (fun _ => rfl) rfl
    · cases h
  | .ins _ _ _, X, W, sc, F, e, h => by unfold ckE at h; cases h
  | .rng es, X, W, sc, F, e, h => by
    unfold ckE at h
    split at h
    · rename_i x p as pos
      simp only [Bool.and_eq_true, decide_eq_true_eq, Bool.or_eq_true] at h
      obtain ⟨⟨⟨rfl, h2⟩, h3⟩, h4⟩ := h
      have g := ck_es es F _ h3
      have q := F.blt h2
      refine .mkI (t := rngM (evs P cl es)) rfl (fun tg _ => ?_) rfl
      match as, h4 with
      | [a], _ =>
        obtain ⟨m, rfl, hp, _⟩ := g.inv1
        exact sm_rng1 q.1 q.2 g.opds (star_cons hp)
      | [a, b], _ =>
        obtain ⟨m, n, rfl, hp, hq, _⟩ := g.inv2
        exact sm_rng2 q.1 q.2 g.opds (by rw [star_cons hp, star_cons hq]; rfl) (star_cons hq)
      | [], h4 => simp at h4
      | _ :: _ :: _ :: _, h4 => simp at h4
    · cases h
  | .enu a, X, W, sc, F, e, h => by
    unfold ckE at h
    split at h
    · simp only [Bool.and_eq_true, decide_eq_true_eq] at h
      obtain ⟨⟨⟨rfl, h2⟩, h3⟩, h4⟩ := h
      have g := ck_e a F _ h4
      have q := F.blt h2
      refine .mkI rfl (fun tg ht => ?_) rfl
      cases tg with
      | Tuple _ _ _ => exact sm_enu q.1 q.2 g.o (star_cons h3)
      | _ => cases ht
    · cases h
  | .zip es, X, W, sc, F, e, h => by
    unfold ckE at h
    split at h
    · rename_i x p as pos
      simp only [Bool.and_eq_true, decide_eq_true_eq] at h
      obtain ⟨⟨⟨rfl, h2⟩, h3⟩, h4⟩ := h
      have g := ck_es es F _ h3
      have q := F.blt h2
      match as, h4 with
      | [a, b], _ =>
        obtain ⟨m, n, rfl, hp, hq, _⟩ := g.inv2
        refine .mkI rfl (fun tg ht => ?_) rfl
        cases tg with
        | Tuple _ _ _ => exact sm_zip q.1 q.2 g.vals (star_cons hp) (star_any (by rw [List.all_cons, hq]; rfl))
        | _ => cases ht
    · cases h
  | .lrng es, X, W, sc, F, e, h => by
    unfold ckE at h
    split at h
    · rename_i x p y p2 as pos pos2
      simp only [Bool.and_eq_true, decide_eq_true_eq, Bool.or_eq_true] at h
      obtain ⟨⟨⟨⟨⟨rfl, rfl⟩, h1⟩, h2⟩, h3⟩, h4⟩ := h
      have g := ck_es es F _ h3
      have q := F.blt h2
      have ql := F.blt h1
      match as, h4 with
      | [a], _ =>
        obtain ⟨m, rfl, hp, gm⟩ := g.inv1
        exact .mk1 rfl (sm_lrng1 F.calm ql.1 ql.2 q.1 q.2 gm.o (star_cons hp) rfl) (fun _ => rfl) rfl
      | [a, b], _ =>
        obtain ⟨m, n, rfl, hp, hq, gm, gn⟩ := g.inv2
        exact .mk1 rfl (sm_lrng2 F.calm ql.1 ql.2 q.1 q.2 gm.o gn.o (star_cons hp) (star_cons hq) (star_any (by rw [List.all_cons, hq]; rfl)) rfl) (fun _ => rfl) rfl
      | [], h4 => simp at h4
      | _ :: _ :: _ :: _, h4 => simp at h4
    · cases h
  | .lc el t it ifs own, X, W, sc, F, e, h => by
    unfold ckE at h
    split at h
    · simp only [Bool.and_eq_true, decide_eq_true_eq, Bool.not_eq_true'] at h
      obtain ⟨⟨⟨⟨⟨⟨⟨⟨⟨⟨rfl, h1⟩, h2⟩, h3⟩, h4⟩, h5⟩, h6⟩, h7⟩, h8⟩, h9⟩, h10⟩ := h
      refine .mk1 rfl ?_ (fun _ => rfl) rfl
      exact (lcP F h2 h3 h4 h5 h6 h7 h9 (ck_e it F _ h1) (fun F' => ck_es ifs F' _ h8) (fun F' => ck_e el F' _ h10)).pe F
    · cases h
  | .lc2 .., X, W, sc, F, e, h => by unfold ckE at h; cases h
  | .fs es, X, W, sc, F, e, h => by
    unfold ckE at h
    split at h
    · rename_i as pos
      simp only [Bool.and_eq_true, decide_eq_true_eq] at h
      obtain ⟨ts, pj, run⟩ := ck_fs es F as h.1
      match as, h.2, pj with
      | v1 :: v2 :: rest, _, pj =>
        refine .mk1 rfl (PE_imp (pe_joined pj) fun σ H Q ⟨F0, fr, f, q⟩ => ?_) (fun _ => rfl) rfl
        exact run Str.empty σ H F0 fr (fun out H1 => Q (.str out) H1) f (Fin.bnd' f (.refl f) RSt GT q fun x y H2 F2 fr2 n2 r2 g2 q2 => by
          have r2 : x = y := r2
          subst r2
          exact q2 (.str x) H2 F2 n2 (.str x) fun _ _ z => by cases z)
      | [], h, _ => simp at h
      | [_], h, _ => simp at h
    · cases h
theorem ck_fs : ∀ (ms : List E) {X : Cx} {W : WX} {sc : Sc} (F : XF X W sc P cl) (es : List Expr), ckFs sc ms es = true → FsOk X W P cl es ms
  | [], X, W, sc, F, es, h => by
    unfold ckFs at h
    cases es with
    | nil => exact fs_nil
    | cons _ _ => cases h
  | m :: ms, X, W, sc, F, es, h => by
    unfold ckFs at h
    cases es with
    | nil => cases h
    | cons e es =>
      simp only [Bool.and_eq_true] at h
      obtain ⟨h1, h2⟩ := h
      have ih := ck_fs ms F es h2
      split at h1
      · rename_i v c p
        simp only [Bool.and_eq_true, decide_eq_true_eq] at h1
        obtain ⟨rfl, h1⟩ := h1
        exact fs_fmt (ck_e m F v h1).v ih
      · split at h1
        · rename_i s
          cases of_decide_eq_true h1
          exact fs_const ih
        · cases h1
      · cases h1
theorem ck_es : ∀ (ms : List E) {X : Cx} {W : WX} {sc : Sc} (F : XF X W sc P cl) (es : List Expr), ckEs sc ms es = true → GEs X W P cl es ms
  | [], X, W, sc, F, es, h => by
    unfold ckEs at h
    cases es with
    | nil => trivial
    | cons _ _ => cases h
  | m :: ms, X, W, sc, F, es, h => by
    unfold ckEs at h
    cases es with
    | nil => cases h
    | cons e es =>
      simp only [Bool.and_eq_true] at h
      exact ⟨h.1.1, ck_e m F e h.1.2, ck_es ms F es h.2⟩
theorem ck_o : ∀ (ms : List E) {X : Cx} {W : WX} {sc : Sc} (F : XF X W sc P cl) (e : Option Expr), ckO sc ms e = true → PO X e (mP X W (part ((evs P cl ms).map fun e => fz e.v)))
  | [], X, W, sc, F, e, h => by
    unfold ckO at h
    cases e with
    | none => exact sm_nopart
    | some _ => cases h
  | m :: ms, X, W, sc, F, e, h => by
    unfold ckO at h
    cases e with
    | none => cases h
    | some e =>
      simp only [Bool.and_eq_true] at h
      cases ms with
      | nil => exact sm_part (sm_fz (ck_e m F e h.1).v)
      | cons _ _ => exact absurd h.2 (by simp)
end
end
end MP

/-! MP: the checker for statements. -/
namespace MP
open PySem PySem.Spec PyProof.Rows L2
mutual
def S.sets : S → List Nat
  | .asg i _ => [i]
  | .asgT ts _ => Tg.varss ts
  | .par ts _ => ts
  | .aug i _ _ => [i]
  | .setix _ _ _ => []
  | .setsl _ _ _ _ => []
  | .ex _ => []
  | .ite _ a b => S.setss a ++ S.setss b
  | .for_ t _ b => t.vars ++ S.setss b
  | .whl _ b => S.setss b
  | .ret _ => []
  | .retN => []
  | .brk => []
  | .cont => []
  | .pass => []
  | .never => []
def S.setss : List S → List Nat
  | [] => []
  | s :: r => s.sets ++ S.setss r
end
/-- the variables that a walk locks -/
def E.lks : E → List Nat
  | .var i => [i]
  | .enu (.var i) => [i]
  | _ => []
theorem itO_sl {s : Slot} {fr fr' : Fr} {p : Itm} (h : itO (.sl s) fr = .ok p fr') : p.2 = [] := by
  unfold itO opt at h
  dsimp only at h
  cases e : s.d?.bind seqI with
  | none => rw [e] at h; cases h
  | some xs => rw [e] at h; cases h; rfl
theorem mk1_sl {v : M Slot} {fr fr' : Fr} {p : Itm} (h : bnd v (fun s => itO (.sl s)) fr = .ok p fr') : p.2 = [] := by
  obtain ⟨s, fr1, _, h2⟩ := bnd_ok h
  exact itO_sl h2
theorem itO_at {i : Nat} {fr fr' : Fr} {p : Itm} (h : itO (.at i) fr = .ok p fr') : ∀ j ∈ p.2, j = i := by
  have other : ∀ s : Slot, opt ((s.d?.bind seqI).map fun xs => ((xs, []) : Itm)) fr = .ok p fr' → ∀ j ∈ p.2, j = i := fun s h => by
    cases e : s.d?.bind seqI with
    | none => rw [e] at h; cases h
    | some xs => rw [e] at h; cases h; intro j hj; cases hj
  unfold itO at h
  dsimp only at h
  cases e : fr.sl i with
  | own xs => rw [e] at h; cases h; intro j hj; simpa using hj
  | un => rw [e] at h; exact other _ h
  | val d => rw [e] at h; exact other _ h
  | lk d => rw [e] at h; exact other _ h
theorem o_at {P : Prg} {cl : Calls} {m : E} {fr fr' : Fr} {j : Nat} (h : (ev P cl m).o fr = .ok (.at j) fr') : m = .var j := by
  have sl : ∀ {v : M Slot} {fr fr' : Fr}, bnd v (fun s => ret (Opd.sl s)) fr = .ok (.at j) fr' → False := fun h => by
    obtain ⟨s, fr1, _, h2⟩ := bnd_ok h
    cases h2
  cases m with
  | var i =>
    have h : opAt i fr = .ok (.at j) fr' := h
    unfold opAt at h
    split at h <;> cases h
    rfl
  | _ => first
    | exact (sl h).elim
    | (cases h; done)
theorem lks_ok {P : Prg} {cl : Calls} (m : E) {fr fr' : Fr} {p : Itm} (h : (ev P cl m).i fr = .ok p fr') : ∀ j ∈ p.2, j ∈ m.lks := by
  have key : (∃ v, (ev P cl m).i = bnd v fun s => itO (.sl s)) → ∀ j ∈ p.2, j ∈ m.lks := fun ⟨v, e⟩ => by
    rw [e] at h
    have e := mk1_sl h
    rw [e]; intro j hj; cases hj
  cases m with
  | var i => intro j hj; rw [itO_at h j hj]; exact List.mem_cons_self
  | zip es =>
    have h : bnd (vals (evs P cl es)) (fun ds => bnd (opt (zipV ds)) fun xs => ret ((xs, []) : Itm)) fr = .ok p fr' := h
    obtain ⟨ds, f1, _, h⟩ := bnd_ok h
    obtain ⟨xs, f2, _, h⟩ := bnd_ok h
    cases h
    intro j hj; cases hj
  | str s => exact key ⟨ret (.val (.str (Str.ofString s))), rfl⟩
  | rng es =>
    have h : bnd (opds (evs P cl es)) (fun os => bnd (rdOs os) fun ds => bnd (opt (rngI ds)) fun xs => ret ((xs, []) : Itm)) fr = .ok p fr' := h
    obtain ⟨os, f1, _, h⟩ := bnd_ok h
    obtain ⟨ds, f2, _, h⟩ := bnd_ok h
    obtain ⟨xs, f3, _, h⟩ := bnd_ok h
    cases h
    intro j hj; cases hj
  | enu e =>
    have h : bnd (ev P cl e).o (fun x => bnd (rdO x) fun d => if enuOk d then bnd (itO x) fun p => ret ((enuI 0 p.1, p.2) : Itm) else bad) fr = .ok p fr' := h
    obtain ⟨x, f1, e1, h⟩ := bnd_ok h
    obtain ⟨d, f2, _, h⟩ := bnd_ok h
    split at h
    · obtain ⟨q, f3, e3, h⟩ := bnd_ok h
      cases h
      cases x with
      | «at» i =>
        have := o_at e1
        subst this
        intro j hj; rw [itO_at e3 j hj]; exact List.mem_cons_self
      | sl s =>
        intro j hj
        have e := itO_sl e3
        rw [e] at hj; cases hj
    · cases h
  | _ => first
    | exact key ⟨_, rfl⟩
    | (cases h; done)
/-- a list is made and stored on one line -/
def swapOk (sc : Sc) (x : Str) (py : Pos) (e : Expr) : Bool := match e with
  | .ListComp _ _ scope pos => decide (sc.ns.lookup x = some .local) && (py.line == pos.line) && !(scope.names.any fun (n, k) => n == x && (k == .local || k == .cell))
  | _ => false
def E.isLc : E → Bool
  | .lc .. => true
  | _ => false
mutual
def ckS (sc : Sc) : S → Stmt → Bool
  | .asg i m, st => (match st with
    | .Assign [.Name x py] e _ => decide (sc.N[i]? = some x) && sc.sto x && ckE sc m e && (!isComp e || (m.isLc && (swapOk sc x py e || !decide (sc.ns.lookup x = some .local))))
    | _ => false)
  | .asgT ts m, st => (match st with
    | .Assign [tg] e _ => isTup tg && ckG sc (.tup ts) tg && ckE sc m e && !isComp e && !isTup e
    | _ => false)
  | .par ts es, st => (match ts, st with
    | [i, j], .Assign [.Tuple [.Name x px, .Name y py] _ _] (.Tuple [a, b] _ _) _ => decide (sc.N[i]? = some x) && decide (sc.N[j]? = some y) && decide (i ≠ j) && decide (sc.ns.lookup x = some .local) && decide (sc.ns.lookup y = some .local) &&
        (py.line == px.line) && !(y == x) && ckEs sc es [a, b] && !([a, b].all (foldedForSure 8)) && !([a, b].all (constantsAlone 8))
    | [i, j, l], .Assign [.Tuple [.Name x px, .Name y py, .Name z pz] _ _] (.Tuple [a, b, c] _ _) _ => decide (sc.N[i]? = some x) && decide (sc.N[j]? = some y) && decide (sc.N[l]? = some z) && decide (i ≠ j ∧ i ≠ l ∧ j ≠ l) && decide (sc.ns.lookup x = some .local ∧ sc.ns.lookup y = some .local ∧ sc.ns.lookup z = some .local) &&
        (py.line == px.line && pz.line == px.line) && decide (x ≠ y ∧ x ≠ z ∧ y ≠ z) && ckEs sc es [a, b, c] && !([a, b, c].all (foldedForSure 8)) && !([a, b, c].all (constantsAlone 8))
    | _, _ => false)
  | .aug i o m, st => (match st with
    | .AugAssign (.Name x _) op e _ => decide (sc.N[i]? = some x) && sc.sto x && decide (pyOp o = op) && ckE sc m e
    | _ => false)
  | .setix i k m, st => (match st with
    | .Assign [.Subscript (.Name x _) y _] e _ => decide (sc.N[i]? = some x) && sc.vis x && okNm x && ckE sc k y && ckE sc m e && !isSli y
    | _ => false)
  | .setsl _ _ _ _, _ => false
  | .ex m, st => (match st with
    | .Expr e _ => ckE sc m e && !isComp e
    | _ => false)
  | .ite c a b, st => (match st with
    | .If e x y _ => ckE sc c e && ckB sc a x && ckB sc b y
    | _ => false)
  | .for_ t it b, st => (match st with
    | .For tg e x y _ => y.isEmpty && tgOk it tg && ckE sc it e && ckG sc t tg && ckB sc b x && !isSet e && it.lks.all (fun i => !(t.vars ++ S.setss b).contains i)
    | _ => false)
  | .whl c b, st => (match st with
    | .While e x y _ => y.isEmpty && ckE sc c e && ckB sc b x
    | _ => false)
  | .ret m, st => (match st with
    | .Return (some e) _ => ckE sc m e
    | _ => false)
  | .retN, st => (match st with
    | .Return none _ => true
    | _ => false)
  | .brk, st => (match st with
    | .Break _ => true
    | _ => false)
  | .cont, st => (match st with
    | .Continue _ => true
    | _ => false)
  | .pass, st => (match st with
    | .Pass _ => true
    | _ => false)
  | .never, _ => true
def ckB (sc : Sc) : List S → List Stmt → Bool
  | [], st => st.isEmpty
  | s :: r, st => (match st with
    | [] => false
    | x :: y => ckS sc s x && ckB sc r y)
end
theorem sw_par3 {x y z : Str} {px py pz pt pt2 : Pos} {kt k2 : Nat} {a b c : Expr} {env : Env} (hk : env.scope.kind = .function) (hx : env.scope.names.lookup x = some .local) (hy : env.scope.names.lookup y = some .local) (hz : env.scope.names.lookup z = some .local) (hl : (py.line == px.line) = true) (hl2 : (pz.line == px.line) = true) (hne : x ≠ y ∧ x ≠ z ∧ y ≠ z)
    (ha : plainE a = true) (hb : plainE b = true) (hc : plainE c = true) (h1 : [a, b, c].all (foldedForSure 8) = false) (h2 : [a, b, c].all (constantsAlone 8) = false) :
    swappedStores [.Tuple [.Name x px, .Name y py, .Name z pz] kt pt] (.Tuple [a, b, c] k2 pt2) env = pure (some [x, y, z]) := by
  have bk : env.blockKind = .function := by unfold Env.blockKind; rw [hk]; rfl
  have lc : ∀ {n : Str}, env.scope.names.lookup n = some .local → (env.kindOf n == some NameKind.local) = true := fun {n} h => by show (env.scope.names.lookup n == _) = true; rw [h]; rfl
  have st : ([a, b, c].any fun | .Starred .. => true | _ => false) = false := by
    have one : ∀ e : Expr, plainE e = true → (match e with | .Starred .. => true | _ => false) = false := fun e h => by cases e <;> first | rfl | cases h
    rw [List.any_cons, List.any_cons, List.any_cons, List.any_nil, one a ha, one b hb, one c hc]; rfl
  have fm : ([Expr.Name x px, Expr.Name y py, Expr.Name z pz].filterMap fun
    | .Name id pos => if env.kindOf id == some .local && pos.line == px.line then some id else none
    | _ => none) = [x, y, z] := by
    simp only [List.filterMap_cons, List.filterMap_nil, lc hx, lc hy, lc hz, hl, hl2, beq_self_eq_true, Bool.and_self, if_true]
  have ed : [x, y, z].eraseDups = [x, y, z] := by
    obtain ⟨n1, n2, n3⟩ := hne
    simp [List.eraseDups_cons, n1.symm, n2.symm, n3.symm]
  unfold swappedStores
  simp only [bk]
  rw [if_neg (by simp)]
  have st' := st
  rw [if_neg (fun q => by
    have := st'.symm.trans q
    cases this)]
  show (if _ then _ else _) = _
  rw [if_neg ?g1, if_neg ?g2, if_neg ?g3]
  · exact congrArg (fun l => pure (some l)) fm
  case g1 =>
    intro q
    have e : ∀ l : List Str, l = [x, y, z] → ¬ ((l.length != 3 || l.eraseDups.length != l.length) = true) := fun l e => by
      subst e; rw [ed]; simp
    exact e _ fm q
  case g2 => rw [h1]; simp
  case g3 => rw [h2]; simp
theorem sw_par {x y : Str} {px py pt pt2 : Pos} {kt k2 : Nat} {a b : Expr} {env : Env} (hk : env.scope.kind = .function) (hx : env.scope.names.lookup x = some .local) (hy : env.scope.names.lookup y = some .local) (hl : (py.line == px.line) = true) (hne : (y == x) = false)
    (ha : plainE a = true) (hb : plainE b = true) (h1 : [a, b].all (foldedForSure 8) = false) (h2 : [a, b].all (constantsAlone 8) = false) :
    swappedStores [.Tuple [.Name x px, .Name y py] kt pt] (.Tuple [a, b] k2 pt2) env = pure (some [x, y]) := by
  have bk : env.blockKind = .function := by unfold Env.blockKind; rw [hk]; rfl
  have kx : (env.kindOf x == some NameKind.local) = true := by show (env.scope.names.lookup x == _) = true; rw [hx]; rfl
  have ky : (env.kindOf y == some NameKind.local) = true := by show (env.scope.names.lookup y == _) = true; rw [hy]; rfl
  have st : ([a, b].any fun | .Starred .. => true | _ => false) = false := by
    cases a <;> cases b <;> first | rfl | (cases ha; done) | (cases hb; done)
  have fm : ([Expr.Name x px, Expr.Name y py].filterMap fun
    | .Name id pos => if env.kindOf id == some .local && pos.line == px.line then some id else none
    | _ => none) = [x, y] := by
    simp only [List.filterMap_cons, List.filterMap_nil, kx, ky, hl, beq_self_eq_true, Bool.and_self, if_true]
  have ed : [x, y].eraseDups = [x, y] := by
    simp [List.eraseDups_cons, hne]
  unfold swappedStores
  simp only [bk]
  rw [if_neg (by simp)]
  have st' := st
  rw [if_neg (fun z => by
    have := st'.symm.trans z
    cases this)]
  show (if _ then _ else _) = _
  rw [if_neg ?g1, if_neg ?g2, if_neg ?g3]
  · exact congrArg (fun l => pure (some l)) fm
  case g1 =>
    intro z
    have e : ∀ l : List Str, l = [x, y] → ¬ ((l.length != 2 || l.eraseDups.length != l.length) = true) := fun l e => by
      subst e; rw [ed]; simp
    exact e _ fm z
  case g2 => rw [h1]; simp
  case g3 => rw [h2]; simp
section
variable {P : Prg} {cl : Calls} {wn : Nat} {X : Cx} {W : WX} {sc : Sc}
theorem sw_none {v : Expr} {tg : Expr} (h : isTup v = false) (env : Env) : swappedStores [tg] v env = pure none := by
  cases v <;> first
    | (cases h; done)
    | (cases tg <;> rfl)
theorem sw_sub {v x y : Expr} {p : Pos} {l : Nat} {env : Env} : swapsWith v (some (.Subscript x y p)) l env = pure false := by
  cases v <;> rfl
theorem sw_sub2 {v x y : Expr} {p : Pos} {env : Env} : swappedStores [.Subscript x y p] v env = pure none := by
  cases v <;> rfl
theorem sw_false {elt : Expr} {gs : List Comprehension} {scope : Scope} {pos py : Pos} {y : Str} {l : Nat} {env : Env} (hk : env.scope.kind = .function) (hy : env.scope.names.lookup y ≠ some .local) : swapsWith (.ListComp elt gs scope pos) (some (.Name y py)) l env = pure false := by
  have ky : (env.kindOf y == some NameKind.local) = false := by
    show (env.scope.names.lookup y == _) = false
    generalize env.scope.names.lookup y = z at hy
    cases z with
    | none => rfl
    | some k => cases k <;> first | rfl | exact absurd rfl hy
  unfold swapsWith
  simp only [ky, Bool.and_false, Bool.false_and]
mutual
theorem ck_s (F : XF X W sc P cl) : ∀ (s : S) (kp : Nat → Bool), (∀ i ∈ s.sets, kp i = false) → ∀ st, ckS sc s st = true → PS X st (SmS X W kp (evS P cl wn s))
  | .asg i m, kp, hk, st, h => by
    unfold ckS at h
    split at h
    · rename_i x py e pos
      simp only [Bool.and_eq_true, decide_eq_true_eq, Bool.or_eq_true, Bool.not_eq_true'] at h
      obtain ⟨⟨⟨h1, h2⟩, h3⟩, h4⟩ := h
      have hi : X.N[i]? = some x := by rw [F.N]; exact h1
      have hil := (List.getElem?_eq_some_iff.mp hi).1
      have q := F.sto h2
      have hki := hk i List.mem_cons_self
      have set_ : swapsWith e (some (.Name x py)) pos.line X.env = pure false → PS X (.Assign [.Name x py] e pos) (SmS X W kp (evS P cl wn (.asg i m))) := fun hs => s_asg hil hki (ps_set F.nd hi q.1 (ck_e m F e h3).v hs q.2)
      rcases h4 with h4 | ⟨h4, h5⟩
      · exact set_ (noswap h4)
      · cases m with
        | lc el t it ifs own =>
          unfold ckE at h3
          split at h3
          · rename_i x2 tg iter fs n scope pos2
            simp only [Bool.and_eq_true, decide_eq_true_eq, Bool.not_eq_true'] at h3
            obtain ⟨⟨⟨⟨⟨⟨⟨⟨⟨⟨rfl, g1⟩, g2⟩, g3⟩, g4⟩, g5⟩, g6⟩, g7⟩, g8⟩, g9⟩, g10⟩ := h3
            have l := lcP F g2 g3 g4 g5 g6 g7 g9 (ck_e it F _ g1) (fun F' => ck_es ifs F' _ g8) (fun F' => ck_e el F' _ g10)
            rcases h5 with h5 | h5
            · unfold swapOk at h5
              simp only [Bool.and_eq_true, decide_eq_true_eq, Bool.not_eq_true'] at h5
              obtain ⟨⟨k1, k2⟩, k3⟩ := h5
              rw [← F.ns] at k1
              have p := ps_setLc (spos := pos) F.calm F.nd hi k1 (sw_true (l := pos.line) F.kind k1 k2 k3) l.hi l.ok l.hg l.ht l.he l.hs
              rw [l.hm] at p
              exact s_asg hil hki (PS_imp p fun D σ H z => lc_main l.hv σ H _ z)
            · exact s_asg hil hki (ps_set F.nd hi q.1 (l.pe F) (sw_false F.kind (by rw [F.ns]; exact of_decide_eq_false h5)) q.2)
          · cases h3
        | _ => cases h4
    · cases h
  | .asgT ts m, kp, hk, st, h => by
    unfold ckS at h
    split at h
    · rename_i tg e pos
      simp only [Bool.and_eq_true, Bool.not_eq_true'] at h
      obtain ⟨⟨⟨⟨h1, h2⟩, h3⟩, h4⟩, h5⟩ := h
      cases tg with
      | Tuple _ _ _ =>
        exact s_asgT (fun i hi => hk i (by unfold Tg.vars at hi; exact hi)) (ps_asg (ck_e m F e h3).o (ck_g F (.tup ts) _ h2) (by unfold swapsWithSole; exact noswap h4) (sw_none h5 _) rfl)
      | _ => cases h1
    · cases h
  | .par ts es, kp, hk, st, h => by
    unfold ckS at h
    split at h
    · rename_i i j x px y py kt pt a b k2 pt2 pos
      simp only [Bool.and_eq_true, decide_eq_true_eq, Bool.not_eq_true'] at h
      obtain ⟨⟨⟨⟨⟨⟨⟨⟨⟨h1, h2⟩, h3⟩, h4⟩, h5⟩, h6⟩, h7⟩, h8⟩, h9⟩, h10⟩ := h
      have hi : X.N[i]? = some x := by rw [F.N]; exact h1
      have hj : X.N[j]? = some y := by rw [F.N]; exact h2
      rw [← F.ns] at h4 h5
      have g := ck_es es F _ h8
      have pl := g.plain
      rw [List.all_cons, List.all_cons, Bool.and_eq_true, Bool.and_eq_true] at pl
      exact s_par (List.getElem?_eq_some_iff.mp hi).1 (List.getElem?_eq_some_iff.mp hj).1 (hk i List.mem_cons_self) (hk j (List.mem_cons_of_mem _ List.mem_cons_self))
        (ps_par F.calm F.nd hi hj h3 h4 h5 g.vals (sw_par F.kind h4 h5 h6 h7 pl.1 pl.2.1 h9 h10) rfl)
    · rename_i i j l x px y py z pz kt pt a b c k2 pt2 pos
      simp only [Bool.and_eq_true, decide_eq_true_eq, Bool.not_eq_true'] at h
      obtain ⟨⟨⟨⟨⟨⟨⟨⟨⟨h1, h2⟩, h3⟩, n1, n2, n3⟩, l1, l2, l3⟩, h6⟩, h7⟩, h8⟩, h9⟩, h10⟩ := h
      have hi : X.N[i]? = some x := by rw [F.N]; exact h1
      have hj : X.N[j]? = some y := by rw [F.N]; exact h2
      have hl : X.N[l]? = some z := by rw [F.N]; exact h3
      rw [← F.ns] at l1 l2 l3
      have g := ck_es es F _ h8
      have pl := g.plain
      rw [List.all_cons, List.all_cons, List.all_cons, Bool.and_eq_true, Bool.and_eq_true, Bool.and_eq_true] at pl
      exact s_par3 (List.getElem?_eq_some_iff.mp hi).1 (List.getElem?_eq_some_iff.mp hj).1 (List.getElem?_eq_some_iff.mp hl).1 (hk i List.mem_cons_self) (hk j (List.mem_cons_of_mem _ List.mem_cons_self)) (hk l (List.mem_cons_of_mem _ (List.mem_cons_of_mem _ List.mem_cons_self)))
        (ps_par3 F.calm F.nd hi hj hl n1 n2 n3 l1 l2 l3 g.vals (sw_par3 F.kind l1 l2 l3 h6.1 h6.2 h7 pl.1 pl.2.1 pl.2.2.1 h9 h10) rfl)
    · cases h
  | .aug i o m, kp, hk, st, h => by
    unfold ckS at h
    split at h
    · rename_i x py op e pos
      simp only [Bool.and_eq_true, decide_eq_true_eq] at h
      obtain ⟨⟨⟨h1, h2⟩, rfl⟩, h3⟩ := h
      have hi : X.N[i]? = some x := by rw [F.N]; exact h1
      have hil := (List.getElem?_eq_some_iff.mp hi).1
      have q := F.sto h2
      exact s_aug hil (hk i List.mem_cons_self) (ps_aug F.nd hi q.1 (ck_e m F e h3).o (ip_aug o) q.2)
    · cases h
  | .setix i k m, kp, hk, st, h => by
    unfold ckS at h
    split at h
    · rename_i x px y py e pos
      simp only [Bool.and_eq_true, decide_eq_true_eq, Bool.not_eq_true'] at h
      obtain ⟨⟨⟨⟨⟨h1, h2⟩, h3⟩, h4⟩, h5⟩, h6⟩ := h
      refine s_setix (ps_asg (sm_fz (ck_e m F e h5).v) (pg_sub (var_of F h1 h2 h3) (ck_e k F y h4).o set_list ?_) (by unfold swapsWithSole; exact sw_sub) sw_sub2 rfl)
      intro v
      cases y <;> first | rfl | cases h6
    · cases h
  | .setsl _ _ _ _, kp, hk, st, h => by unfold ckS at h; cases h
  | .ex m, kp, hk, st, h => by
    unfold ckS at h
    split at h
    · simp only [Bool.and_eq_true, Bool.not_eq_true'] at h
      exact s_ex (ps_expr (ck_e m F _ h.1).v (noswap h.2))
    · cases h
  | .ite c a b, kp, hk, st, h => by
    unfold ckS at h
    split at h
    · simp only [Bool.and_eq_true] at h
      exact s_ite (ps_if (ck_e c F _ h.1.1).t (ck_b F a kp (fun i hi => hk i (by unfold S.sets; exact List.mem_append_left _ hi)) _ h.1.2) (ck_b F b kp (fun i hi => hk i (by unfold S.sets; exact List.mem_append_right _ hi)) _ h.2))
    · cases h
  | .for_ t it b, kp, hk, st, h => by
    unfold ckS at h
    split at h
    · rename_i tg e x y pos
      simp only [Bool.and_eq_true, Bool.not_eq_true'] at h
      obtain ⟨⟨⟨⟨⟨⟨h1, h2⟩, h3⟩, h4⟩, h5⟩, h6⟩, h7⟩ := h
      cases y with
      | cons _ _ => cases h1
      | nil =>
        have hset : (S.for_ t it b).sets = t.vars ++ S.setss b := by unfold S.sets; rfl
        have hkp : ∀ i, (fun i => !(t.vars ++ S.setss b).contains i) i = false ↔ i ∈ t.vars ++ S.setss b := fun i => by show (!(t.vars ++ S.setss b).contains i) = false ↔ _; rw [Bool.not_eq_false', List.contains_iff_mem]
        refine s_for (kp' := fun i => !(t.vars ++ S.setss b).contains i) (fun i hi => ?_) (fun i hi => (hkp i).mpr (List.mem_append_left _ hi)) (fun fr p fr' hp i hi => ?_)
          (ps_for F.po F.calm ((ck_e it F e h3).i tg h2) (ck_g F t tg h4) (ck_b F b _ (fun i hi => (hkp i).mpr (List.mem_append_right _ hi)) x h5) (noset h6))
        · cases z : (fun i => !(t.vars ++ S.setss b).contains i) i with
          | true => exact z
          | false =>
            have := hk i (by rw [hset]; exact (hkp i).mp z)
            rw [this] at hi; cases hi
        · exact List.all_eq_true.mp h7 i (lks_ok it hp i hi)
    · cases h
  | .whl c b, kp, hk, st, h => by
    unfold ckS at h
    split at h
    · rename_i e x y pos
      simp only [Bool.and_eq_true] at h
      obtain ⟨⟨h1, h2⟩, h3⟩ := h
      cases y with
      | cons _ _ => cases h1
      | nil => exact s_whl (ps_while F.po (ck_e c F e h2).t (ck_b F b kp (fun i hi => hk i (by unfold S.sets; exact hi)) x h3))
    · cases h
  | .ret m, kp, hk, st, h => by
    unfold ckS at h
    split at h
    · rename_i e pos
      refine s_ret (ps_ret ?_)
      have g := (ck_e m F e h)
      unfold retV
      split
      · rename_i i
        unfold ckE at h
        split at h
        · simp only [Bool.and_eq_true, decide_eq_true_eq] at h
          exact sm_retVar (var_of F h.1.1 h.1.2 h.2)
        · cases h
      · exact g.v
    · cases h
  | .retN, kp, hk, st, h => by
    unfold ckS at h
    split at h
    · exact s_retN ps_retN
    · cases h
  | .brk, kp, hk, st, h => by
    unfold ckS at h
    split at h
    · exact s_brk ps_break
    · cases h
  | .cont, kp, hk, st, h => by
    unfold ckS at h
    split at h
    · exact s_cont ps_continue
    · cases h
  | .pass, kp, hk, st, h => by
    unfold ckS at h
    split at h
    · exact s_pass ps_pass
    · cases h
  | .never, kp, hk, st, h => s_never
theorem ck_b (F : XF X W sc P cl) : ∀ (s : List S) (kp : Nat → Bool), (∀ i ∈ S.setss s, kp i = false) → ∀ st, ckB sc s st = true → PSs X st (SmS X W kp (evB P cl wn s))
  | [], kp, hk, st, h => by
    unfold ckB at h
    cases st with
    | nil => exact s_nil
    | cons _ _ => cases h
  | s :: r, kp, hk, st, h => by
    unfold ckB at h
    cases st with
    | nil => cases h
    | cons x y =>
      simp only [Bool.and_eq_true] at h
      exact s_cons (ck_s F s kp (fun i hi => hk i (by unfold S.setss; exact List.mem_append_left _ hi)) x h.1) (ck_b F r kp (fun i hi => hk i (by unfold S.setss; exact List.mem_append_right _ hi)) y h.2)
end
end
end MP

/-! MP: defs, programs. -/
namespace MP
open PySem PySem.Spec PyProof.Rows L2
/-- a def's check: its slots, its lent parameters -/
def ckF (sc : Sc) (np : Nat) (f : Fn) (body : List Stmt) : Bool := decide (f.ns = sc.N.length) && decide (f.io.length = np) && ckB sc f.body body && (S.setss f.body).all fun i => !(f.io.getD i false)
theorem sl_ext (as : List Slot) (n i : Nat) : Fr.sl (as ++ List.replicate n .un) i = Fr.sl as i := by
  unfold Fr.sl
  simp only [List.getD_eq_getElem?_getD]
  by_cases h : i < as.length
  · rw [List.getElem?_append_left h]
  · rw [List.getElem?_append_right (by omega), List.getElem?_replicate, List.getElem?_eq_none (l := as) (by omega)]
    split <;> rfl
theorem sv_ext (vs : List V) (m : Nat) {i : Nat} (h : i < vs.length) : sv (vs.map some ++ List.replicate m none) i = sv (vs.map some) i := by
  unfold sv
  rw [List.getElem?_append_left (by simpa using h)]
theorem own_ext {as : List Slot} {vs : List V} {n m : Nat} (hl : as.length = vs.length) {a : Addr} : (Own (as ++ List.replicate n .un) (vs.map some ++ List.replicate m none) a ↔ Own as (vs.map some) a) ∧ (Lok (as ++ List.replicate n .un) (vs.map some ++ List.replicate m none) a ↔ Lok as (vs.map some) a) := by
  have lt : ∀ {i : Nat}, Fr.sl as i ≠ Slot.un → i < vs.length := fun h => by rw [← hl]; exact sl_lt h
  refine ⟨⟨fun ⟨i, h, e⟩ => ?_, fun ⟨i, h, e⟩ => ?_⟩, ⟨fun ⟨i, h, e⟩ => ?_, fun ⟨i, h, e⟩ => ?_⟩⟩
  · rw [sl_ext] at h
    exact ⟨i, h, by rw [sv_ext vs m (lt fun z => by rw [z] at h; cases h)] at e; exact e⟩
  · exact ⟨i, by rw [sl_ext]; exact h, by rw [sv_ext vs m (lt fun z => by rw [z] at h; cases h)]; exact e⟩
  · rw [sl_ext] at h
    exact ⟨i, h, by rw [sv_ext vs m (lt fun z => by rw [z] at h; cases h)] at e; exact e⟩
  · exact ⟨i, by rw [sl_ext]; exact h, by rw [sv_ext vs m (lt fun z => by rw [z] at h; cases h)]; exact e⟩
theorem lent_sl : ∀ (io : List Bool) (fr : Fr) (i : Nat), Fr.sl (lent io fr) i = if io.getD i false then fr.sl i else .un
  | [], fr, i => by
    have e : lent [] fr = [] := by unfold lent; rfl
    rw [e, sl_big (by simp)]; simp
  | b :: io, [], i => by
    have e : lent (b :: io) [] = [] := by unfold lent; rfl
    rw [e, sl_big (by simp)]; simp [Fr.sl]
  | b :: io, s :: fr, 0 => by
    have e : lent (b :: io) (s :: fr) = (if b then s else .un) :: lent io fr := by rw [lent]
    rw [e, sl_zero]; rfl
  | b :: io, s :: fr, i + 1 => by
    have e : lent (b :: io) (s :: fr) = (if b then s else .un) :: lent io fr := by rw [lent]
    rw [e, sl_succ, lent_sl io fr i, sl_succ]; rfl
theorem lent_len : ∀ (io : List Bool) (fr : Fr), (lent io fr).length = min io.length fr.length
  | [], fr => by have e : lent [] fr = [] := by (unfold lent; rfl)
                 rw [e]; simp
  | b :: io, [] => by have e : lent (b :: io) [] = [] := by (unfold lent; rfl)
                      rw [e]; simp
  | b :: io, s :: fr => by
    have e : lent (b :: io) (s :: fr) = (if b then s else .un) :: lent io fr := by rw [lent]
    rw [e, List.length_cons, lent_len io fr, List.length_cons, List.length_cons]; omega
section
variable {K : PySem.W.Frag} {H H' : Hp} {F F' : FS} {as : List Slot} {vs : List V} {n : Nat} {fr' : Fr} {σ' : Sg} {io : List Bool}
theorem lent_io {i : Nat} (h : (Fr.sl (lent io fr') i) ≠ .un) : io.getD i false = true ∧ Fr.sl (lent io fr') i = fr'.sl i := by
  rw [lent_sl] at h ⊢
  split
  · rename_i e; exact ⟨e, rfl⟩
  · rename_i e; rw [if_neg e] at h; exact absurd rfl h
theorem io_lt {i : Nat} (h : io.getD i false = true) : i < io.length := by
  refine Nat.lt_of_not_le fun q => ?_
  rw [List.getD_eq_getElem?_getD, List.getElem?_eq_none q] at h; cases h
theorem held_un {s : Slot} (h : s.isHeld = true) : s ≠ .un := fun z => by rw [z] at h; cases h
/-- from a body's end to its caller -/
theorem ns_nx (hl : as.length = vs.length) (hio : io.length = vs.length)
    (ns : Ns K (fun i => io.getD i false) (vs.map some ++ List.replicate n none) H F (as ++ List.replicate n .un) σ' H' F' fr') :
    Nx K (vs.map some) H F as (lent io fr') H' F' ∧ (∀ a, Own (lent io fr') (vs.map some) a → Own fr' σ' a) ∧ (∀ a, Lok (lent io fr') (vs.map some) a → Lok fr' σ' a) := by
  have own := fun a => (own_ext (n := n) (m := n) hl (a := a)).1
  have lok := fun a => (own_ext (n := n) (m := n) hl (a := a)).2
  have flen : fr'.length = vs.length + n := by rw [ns.fm.len, ns.len]; simp
  have sve : ∀ i, io.getD i false = true → sv σ' i = sv (vs.map some) i := fun i h => (ns.kpt i h).trans (sv_ext vs n (by rw [← hio]; exact io_lt h))
  refine ⟨⟨⟨?_, fun i => ?_, fun i j a hi hj ei ej => ?_, ns.fm.ft⟩, ns.sub, ns.trk, fun a h no => ns.keep a h fun q => no ((own a).mp q), fun a h no nl => ns.nof a h (fun q => no ((own a).mp q)) fun q => nl ((lok a).mp q), fun i h => ?_, fun i h => ?_⟩, fun a ⟨i, h, e⟩ => ?_, fun a ⟨i, h, e⟩ => ?_⟩
  · rw [lent_len, flen, hio]; simp
  · by_cases h : Fr.sl (lent io fr') i = .un
    · rw [h]; trivial
    · obtain ⟨h1, h2⟩ := lent_io h
      rw [h2, ← sve i h1]; exact ns.fm.rep i
  · obtain ⟨a1, a2⟩ := lent_io (held_un hi)
    obtain ⟨b1, b2⟩ := lent_io (held_un hj)
    rw [a2] at hi; rw [b2] at hj; rw [← sve i a1] at ei; rw [← sve j b1] at ej
    exact ns.fm.dis i j a hi hj ei ej
  · obtain ⟨a1, a2⟩ := lent_io (held_un (held_own h))
    rw [a2] at h
    have := ns.kown i a1 h
    rw [sl_ext] at this; exact this
  · obtain ⟨a1, a2⟩ := lent_io (held_un h)
    rw [a2] at h
    have := ns.khld i a1 h
    rw [sl_ext] at this; exact this
  · obtain ⟨a1, a2⟩ := lent_io (held_un (held_own h))
    rw [a2] at h
    exact ⟨i, h, by rw [sve i a1]; exact e⟩
  · obtain ⟨a1, a2⟩ := lent_io (held_un (held_lk h))
    rw [a2] at h
    exact ⟨i, h, by rw [sve i a1]; exact e⟩
theorem fm_ext (hl : as.length = vs.length) (f : Fm K H F as (vs.map some)) : Fm K H F (as ++ List.replicate n .un) (vs.map some ++ List.replicate n none) := by
  have lt : ∀ {i : Nat}, Fr.sl as i ≠ Slot.un → i < vs.length := fun h => by rw [← hl]; exact sl_lt h
  refine ⟨by simp [hl], fun i => ?_, fun i j a hi hj ei ej => ?_, f.ft⟩
  · rw [sl_ext]
    by_cases h : Fr.sl as i = Slot.un
    · rw [h]; trivial
    · rw [sv_ext vs n (lt h)]; exact f.rep i
  · rw [sl_ext] at hi hj
    rw [sv_ext vs n (lt (held_un hi))] at ei
    rw [sv_ext vs n (lt (held_un hj))] at ej
    exact f.dis i j a hi hj ei ej
end
section
variable {P : Program} {w : World} {K : PySem.W.Frag} {mg : Str → Option Value} {base : Heap} {x qual : Str} {params : Arguments} {body : List Stmt} {scope : Scope} {fa : Addr} {fd : FuncData} {ps : List Str} {sc : Sc} {Pg : Prg} {cl : Calls} {wn k : Nat} {f : Fn}
/-- a def keeps its promise -/
theorem fn_ok (Fd : FunD K x qual params body scope [] [] fa fd) (S : FnScope sc.N ps scope) (hns : scope.names = sc.ns) (hcl : sc.cl = none) (ck : ckF sc ps.length f body = true)
    (hfns : ∀ (g : Nat) (y : Str), sc.fns[g]? = some y → ∃ fa fd ps n, FnOk P w K mg base (L2.CX P w) k fa fd ps (spF K mg (cl g) n) ∧ mg y = some (.ref fa) ∧ PySem.W.keepIn K (.ref fa) = true ∧ Binds K fd ps [] ∧ ∀ as, cl g as ≠ .bad → as.length = n)
    (hbl : ∀ y ∈ sc.bls, mg y = none) (hglo : ∀ (g : Nat) (y : Str), sc.glo[g]? = some y → ∃ (u : Value) (v : V) (d : D), mg y = some u ∧ RelV v u ∧ Pg.glo[g]? = some d ∧ ∀ H F, Rep K H F v d)
    (hdct : ∀ (g : Nat) (y : Str), sc.dct[g]? = some y → ∃ (a : Addr) (kvs : List (Str × D)), mg y = some (.ref a) ∧ Pg.dct[g]? = some kvs ∧ ∀ z d, look kvs z = some d → ∃ v, KDct K w a z v ∧ ∀ H F, Rep K H F v d) :
    FnOk P w K mg base (L2.CX P w) (k + 1) fa fd ps (spF K mg (runF Pg cl wn f) ps.length) := by
  unfold ckF at ck
  simp only [Bool.and_eq_true, decide_eq_true_eq] at ck
  obtain ⟨⟨⟨c1, c2⟩, c3⟩, c4⟩ := ck
  refine Fd.ok S (fun vs H Q E h => h.1) fun cdv A outer s H vs Q E hr h => ?_
  obtain ⟨hlen, F, as, fm, fin⟩ := h
  have hl : as.length = vs.length := by have := fm.len; simpa using this
  have F0 : XF (cxOf (L2.CX P w) P w K mg base sc.N qual scope fa cdv A outer s H E) (fun c d _ H => E c d H) sc Pg cl :=
    ⟨rfl, S.nd, hns, S.kind, rfl, takes_of rfl rfl rfl rfl, passes_of rfl, fun _ _ => rfl, by have := hr.un; show (A.deeper _).units + 65 < _; omega, fun g y hy => by
      obtain ⟨fa, fd, ps, n, h1, h2, h3, h4, h5⟩ := hfns g y hy
      exact ⟨k, fa, fd, ps, n, h1, hr, h2, h3, h4, h5⟩, hbl, hglo, hdct⟩
  refine ⟨_, ck_b F0 (wn := wn) f.body (fun i => f.io.getD i false) (fun i hi => ?_) body c3, F, as ++ List.replicate (sc.N.length - vs.length) .un, ?_, ?_⟩
  · have := List.all_eq_true.mp c4 i hi
    simpa using this
  · exact fm_ext hl fm
  · have e : runF Pg cl wn f as = endF f.io (evB Pg cl wn f.body (as ++ List.replicate (sc.N.length - vs.length) .un)) := by
      unfold runF
      rw [if_pos (by omega), c1, c2, hlen]
    rw [e] at fin
    have hio : f.io.length = vs.length := by omega
    show SRes K mg (fun c d _ H => E c d H) (fun i => f.io.getD i false) (vs.map some ++ List.replicate (sc.N.length - vs.length) none) H F _ _ _
    cases z : evB Pg cl wn f.body (as ++ List.replicate (sc.N.length - vs.length) .un) with
    | bad => rw [z] at fin; exact fin
    | bk fr' => rw [z] at fin; exact fin.elim
    | ct fr' => rw [z] at fin; exact fin.elim
    | nx fr' =>
      rw [z] at fin
      exact fun σ' H' F' n => fin .non H' F' (ns_nx hl hio n).1 .non fun _ _ z => by cases z
    | rt r fr' =>
      rw [z] at fin
      intro σ' H' F' v n rr gg
      obtain ⟨n1, n2, n3⟩ := ns_nx hl hio n
      refine fin v H' F' n1 ?_ fun ds a e1 e2 => (gg ds a e1 e2).imp (fun q => ((own_ext hl).1).mp q) id
      cases r with
      | un => trivial
      | val d => exact rr
      | lk d => exact rr
      | own ds =>
        obtain ⟨a, ws, ea, h, q, nf, no, nl⟩ := rr
        exact ⟨a, ws, ea, h, q, nf, fun o => no (n2 a o), fun o => nl (n3 a o)⟩
    | ex y fr' =>
      rw [z] at fin
      exact fun c d σ' H' F' n r => fin c d H' F' (ns_nx hl hio n).1 r
end
/-- a def of the program -/
structure Rec where
  nm : Str
  qual : Str
  params : Arguments
  body : List Stmt
  scope : Scope
  ps : List Str
  N : List Str
  fn : Fn
/-- all that the checker is given -/
structure Pack where
  recs : List Rec
  bls : List Str
  glo : List Str
  glod : List D
  dct : List Str
  dctd : List (List (Str × D))
def Pack.sc (p : Pack) (r : Rec) : Sc := ⟨r.N, r.scope.names, none, p.recs.map (·.nm), p.bls, p.glo, p.dct⟩
def Pack.prg (p : Pack) : Prg := ⟨p.recs.map (·.fn), p.glod, p.dctd⟩
def scopeOk (N ps : List Str) (sc : Scope) : Bool := (match sc.kind with | .function => true | _ => false) && !sc.isCoroutine && !sc.isGenerator && decide N.Nodup && decide (N.take ps.length = ps) &&
  (ps.all fun x => decide (sc.names.lookup x = some .local) || decide (sc.names.lookup x = some .cell)) && sc.names.all fun y => !decide (y.2 = .free)
theorem scopeOk_ok {N ps : List Str} {sc : Scope} (h : scopeOk N ps sc = true) : FnScope N ps sc := by
  unfold scopeOk at h
  simp only [Bool.and_eq_true, decide_eq_true_eq, List.all_eq_true, Bool.or_eq_true, Bool.not_eq_true', decide_eq_false_iff_not] at h
  obtain ⟨⟨⟨⟨⟨⟨h1, h2⟩, h3⟩, h4⟩, h5⟩, h6⟩, h7⟩ := h
  refine ⟨?_, h2, h3, h4, h5, h6, h7⟩
  split at h1
  · assumption
  · cases h1
def Pack.ck1 (p : Pack) (r : Rec) : Bool := scopeOk r.N r.ps r.scope && ckF (p.sc r) r.ps.length r.fn r.body
/-- how a call binds, whatever the state -/
def BindA (fd : FuncData) (ps : List Str) : Prop := ∀ (s : Shared) (us : List Value), us.length = ps.length → BindsTo s fd ⟨us, []⟩ (ps.zip us)
theorem BindA.binds {fd : FuncData} {ps : List Str} {K : PySem.W.Frag} (h : BindA fd ps) : Binds K fd ps [] := fun s us _ hl => by
  rw [List.append_nil] at hl ⊢
  exact h s us hl
/-- what is known of the module -/
structure Pack.Facts (p : Pack) (w : World) (K : PySem.W.Frag) (mg : Str → Option Value) : Prop where
  fns : ∀ r ∈ p.recs, ∃ fa fd, FunD K r.nm r.qual r.params r.body r.scope [] [] fa fd ∧ mg r.nm = some (.ref fa) ∧ BindA fd r.ps
  bl : ∀ y ∈ p.bls, mg y = none
  glo : ∀ (g : Nat) (y : Str), p.glo[g]? = some y → ∃ (u : Value) (v : V) (d : D), mg y = some u ∧ RelV v u ∧ p.glod[g]? = some d ∧ ∀ H F, Rep K H F v d
  dct : ∀ (g : Nat) (y : Str), p.dct[g]? = some y → ∃ (a : Addr) (kvs : List (Str × D)), mg y = some (.ref a) ∧ p.dctd[g]? = some kvs ∧ ∀ z d, look kvs z = some d → ∃ v, KDct K w a z v ∧ ∀ H F, Rep K H F v d
theorem callF_len {Pg : Prg} {wn : Nat} {d : Fn} {i : Nat} (h : Pg.fns[i]? = some d) : ∀ (k : Nat) (as : List Slot), callF Pg wn k i as ≠ .bad → as.length = d.io.length
  | 0, as, q => absurd rfl q
  | k + 1, as, q => by
    unfold callF at q
    rw [h] at q
    dsimp only at q
    unfold runF at q
    split at q
    · assumption
    · exact absurd rfl q
/-- ALL DEFS KEEP THEIR PROMISES -/
theorem prog_ok {p : Pack} {P : Program} {w : World} {K : PySem.W.Frag} {mg : Str → Option Value} {base : Heap} {wn : Nat} (X : p.Facts w K mg) (ck : ∀ r ∈ p.recs, p.ck1 r = true) :
    ∀ (k i : Nat) (r : Rec), p.recs[i]? = some r → ∀ fa fd, FunD K r.nm r.qual r.params r.body r.scope [] [] fa fd → FnOk P w K mg base (L2.CX P w) k fa fd r.ps (spF K mg (callF p.prg wn k i) r.ps.length)
  | 0, i, r, hr, fa, fd, Fd => by
    refine ⟨fun vs H Q E h => h.1, fun A outer s H args us vs Q E _ _ _ _ h => ?_⟩
    obtain ⟨_, F, as, _, fin⟩ := h
    exact fin.elim
  | k + 1, i, r, hr, fa, fd, Fd => by
    have c := ck r (List.mem_of_getElem? hr)
    unfold Pack.ck1 at c
    rw [Bool.and_eq_true] at c
    have e : callF p.prg wn (k + 1) i = runF p.prg (callF p.prg wn k) wn r.fn := by
      funext as
      rw [callF]
      show (match (p.recs.map (·.fn))[i]? with | some d => runF p.prg (callF p.prg wn k) wn d as | none => .bad) = _
      rw [List.getElem?_map, hr]; rfl
    rw [e]
    refine fn_ok (sc := p.sc r) Fd (scopeOk_ok c.1) rfl rfl c.2 (fun g y hy => ?_) X.bl X.glo X.dct
    have hy : (p.recs.map (·.nm))[g]? = some y := hy
    rw [List.getElem?_map] at hy
    cases hg : p.recs[g]? with
    | none => rw [hg] at hy; cases hy
    | some r2 =>
      rw [hg] at hy
      cases hy
      obtain ⟨fa2, fd2, F2, m2, b2⟩ := X.fns r2 (List.mem_of_getElem? hg)
      have c2 := ck r2 (List.mem_of_getElem? hg)
      unfold Pack.ck1 ckF at c2
      simp only [Bool.and_eq_true, decide_eq_true_eq] at c2
      refine ⟨fa2, fd2, r2.ps, r2.ps.length, prog_ok X ck k g r2 hg fa2 fd2 F2, m2, F2.kp, b2.binds, fun as q => ?_⟩
      rw [← c2.2.1.1.2]
      exact callF_len (Pg := p.prg) (d := r2.fn) (by show (p.recs.map (·.fn))[g]? = _; rw [List.getElem?_map, hg]; rfl) k as q
/-- THE LAW -/
theorem law_ok {p : Pack} {K : PySem.W.Frag} {mg : Str → Option Value} {wn k i : Nat} {H : Hp} {a : Addr} {ns : List Int} (hS : SqL K H a (ns.map V.int)) (h : ∃ ps, callF p.prg wn k i [.val (.scr ns)] = .ok (.val (.bl true)) ps) :
    spF K mg (callF p.prg wn k i) 1 [.ref a] H (fun v _ => v = .bl true) fun _ _ _ => False := by
  obtain ⟨ps, h⟩ := h
  have go : ∀ F : FS, (∀ b, F b → H b ≠ none) → SAt K H F a (ns.map V.int) → spF K mg (callF p.prg wn k i) 1 [.ref a] H (fun v _ => v = .bl true) fun _ _ _ => False := fun F ft hs => by
    refine ⟨rfl, F, [.val (.scr ns)], Fm.cons (s := .val (.scr ns)) (Fm.nil ft) ⟨_, rfl, .scr hs⟩ (fun _ (q : false = true) => absurd q (by decide)), ?_⟩
    rw [h]
    intro r H' F' n rr g
    cases rr
    rfl
  rcases hS with hS | hS
  · refine go (fun b => b = a) (fun b e z => ?_) (.inl ⟨rfl, hS⟩)
    subst e
    rcases hS with q | ⟨o, q⟩ <;> (rw [z] at q; cases q)
  · exact go (fun _ => False) (fun _ e => e.elim) (.inr hS)
end MP

/-! MP: the law's end. -/
namespace MP
open PySem PySem.Spec PyProof.Rows L2
def CXw (P : Program) : CXT := fun o H s E e s' => ∃ w, L2.CX P w o H s E e s'
theorem cxw_no {P : Program} : ∀ (H : Hp) (s : Shared) (e : Value) (s' : Shared), CXw P [] H s (fun _ _ _ => False) e s' → False := fun H s e s' ⟨w, a, B, H', cls, d, _, _, _, _, _, _, _, z⟩ => z
theorem FnOk.cx {P : Program} {w : World} {K : PySem.W.Frag} {mg : Str → Option Value} {base : Heap} {CX CX' : CXT} {k : Nat} {f : Addr} {fd : FuncData} {ps : List Str} {sp : Sp} (F : FnOk P w K mg base CX k f fd ps sp) (h : ∀ o H s E e s', CX o H s E e s' → CX' o H s E e s') :
    FnOk P w K mg base CX' k f fd ps sp := ⟨F.len, fun A outer s H args us vs Q E hr he hb hv hs => codeAny_mono (F.run A outer s H args us vs Q E hr he hb hv hs) fun r s' hq => by
  cases r with
  | error e => exact h _ _ _ _ _ _ hq
  | ok fl => cases fl <;> exact hq⟩
/-- from the pack's facts to the promise of the law -/
theorem law_end {p : Pack} {P : Program} {w : World} {K : PySem.W.Frag} {mg : Str → Option Value} {h : Heap} {fa : Addr} {wn k i n : Nat} {r : Rec} {x : Str} (KX : K.In h) (hmg : mg ("law" : Str) = some (.ref fa))
    (X : ∀ mg, h.Ns mainGlobals mg → p.Facts w K mg) (G : h.Ns mainGlobals mg) (ck : ∀ r ∈ p.recs, p.ck1 r = true) (hi : p.recs[i]? = some r) (hn : r.nm = "law") (hp : r.ps = [x])
    (plain : ∀ ns : List Int, ns.length ≤ n → ∃ ps, callF p.prg wn k i [.val (.scr ns)] = .ok (.val (.bl true)) ps) :
    ∃ (K : PySem.W.Frag) (fd : FuncData) (sp : Sp), K.In h ∧ (∀ (s : Shared) (u : Value), BindsTo s fd ⟨[u], []⟩ [(x, u)]) ∧
        (∀ (H : Hp) (a : Addr) (ns : List Int), ns.length ≤ n → Only H → SqL K H a (ns.map V.int) → sp [.ref a] H (fun v _ => v = .bl true) fun _ _ _ => False) ∧
        ∀ base : Heap, K.In base → base.Ns mainGlobals mg → FnOk P w K mg base (CXw P) k fa fd [x] sp := by
  obtain ⟨fa', fd, F, m, b⟩ := (X mg G).fns r (List.mem_of_getElem? hi)
  rw [hn] at m
  have e := hmg.symm.trans m
  cases e
  refine ⟨K, fd, spF K mg (callF p.prg wn k i) 1, KX, fun s u => ?_, fun H a ns hl _ hS => law_ok hS (plain ns hl), fun base _ _ => ?_⟩
  · rw [hp] at b
    exact b s [u] rfl
  · have := prog_ok (w := w) (P := P) (base := base) (wn := wn) (X mg G) ck k i r hi fa fd F
    rw [hp] at this
    exact FnOk.cx this fun o H s E e s' z => ⟨w, z⟩
end MP

/-! MP: constants of the module: data, tables with text keys. -/
namespace MP
open PySem PySem.Spec PyProof.Rows L2
mutual
def repB (K : PySem.W.Frag) : D → Value → Bool
  | .non, u => (match u with
    | .none => true
    | _ => false)
  | .bl b, u => (match u with
    | .bool c => b == c
    | _ => false)
  | .int i, u => (match u with
    | .int j _ => decide (i = j)
    | _ => false)
  | .str x, u => (match u with
    | .str y _ => decide (x = y)
    | _ => false)
  | .tup ds, u => (match u with
    | .ref a => (match K.lookup a with
      | some ⟨.type c, _, .seq its _, _⟩ => decide (c = "tuple") && (decide (its.size ≤ sizeLine) && repsB K ds its.toList)
      | _ => false)
    | _ => false)
  | _, _ => false
def repsB (K : PySem.W.Frag) : List D → List Value → Bool
  | [], us => us.isEmpty
  | d :: ds, us => (match us with
    | [] => false
    | u :: us => repB K d u && repsB K ds us)
end
mutual
theorem repB_ok {K : PySem.W.Frag} : ∀ (d : D) (u : Value), repB K d u = true → ∃ v, RelV v u ∧ ∀ H F, Rep K H F v d
  | .non, u, h => by
    unfold repB at h
    cases u with
    | none => exact ⟨.non, rfl, fun _ _ => .non⟩
    | _ => cases h
  | .bl b, u, h => by
    unfold repB at h
    cases u with
    | bool c =>
      have e : b = c := eq_of_beq h
      exact ⟨.bl b, by rw [e]; rfl, fun _ _ => .bl b⟩
    | _ => cases h
  | .int i, u, h => by
    unfold repB at h
    cases u with
    | int j t =>
      have e : i = j := of_decide_eq_true h
      exact ⟨.int i, ⟨t, by rw [e]⟩, fun _ _ => .int i⟩
    | _ => cases h
  | .str i, u, h => by
    unfold repB at h
    cases u with
    | str j t =>
      have e : i = j := of_decide_eq_true h
      exact ⟨.str i, ⟨t, by rw [e]⟩, fun _ _ => .str i⟩
    | _ => cases h
  | .tup ds, u, h => by
    unfold repB at h
    cases u with
    | ref a =>
      have h : (match K.lookup a with
        | some ⟨.type c, _, .seq its _, _⟩ => decide (c = "tuple") && (decide (its.size ≤ sizeLine) && repsB K ds its.toList)
        | _ => false) = true := h
      cases q : K.lookup a with
      | none => rw [q] at h; cases h
      | some o =>
        obtain ⟨oc, od, dt, sl⟩ := o
        rw [q] at h
        cases oc with
        | type c =>
          cases dt with
          | seq its n =>
            obtain ⟨h1, h2⟩ := He.ba h
            obtain ⟨h3, h4⟩ := He.ba h2
            obtain ⟨vs, r1, r2⟩ := repsB_ok ds its.toList h4
            refine ⟨.ref a, rfl, fun H F => .tup (vs := vs) (.inr ⟨_, its, n, q, ?_, rfl, of_decide_eq_true h3, r1⟩) (r2 H F)⟩
            show Value.type c = _
            rw [of_decide_eq_true h1]
          | _ => cases h
        | _ => cases dt <;> cases h
    | _ => cases h
  | .lst _, u, h => by unfold repB at h; cases h
  | .dic _ _, u, h => by unfold repB at h; cases h
  | .scr _, u, h => by unfold repB at h; cases h
theorem repsB_ok {K : PySem.W.Frag} : ∀ (ds : List D) (us : List Value), repsB K ds us = true → ∃ vs, Vals vs us ∧ ∀ H F, Reps K H F vs ds
  | [], us, h => by
    unfold repsB at h
    cases us with
    | nil => exact ⟨[], .nil, fun _ _ => .nil⟩
    | cons _ _ => cases h
  | d :: ds, us, h => by
    unfold repsB at h
    cases us with
    | nil => cases h
    | cons u us =>
      obtain ⟨h1, h2⟩ := He.ba h
      obtain ⟨v, r1, r2⟩ := repB_ok d u h1
      obtain ⟨vs, s1, s2⟩ := repsB_ok ds us h2
      exact ⟨v :: vs, .cons r1 s1, fun H F => .cons (r2 H F) (s2 H F)⟩
end
def atB (K : PySem.W.Frag) (a : Addr) (x : Str) (d : D) : Bool := match PySem.W.nsIn K a x with
  | some (some u) => repB K d u
  | _ => false
theorem atB_ok {K : PySem.W.Frag} {a : Addr} {x : Str} {d : D} (h : atB K a x d = true) : ∃ u v, PySem.W.nsIn K a x = some (some u) ∧ RelV v u ∧ ∀ H F, Rep K H F v d := by
  unfold atB at h
  cases q : PySem.W.nsIn K a x with
  | none => rw [q] at h; cases h
  | some o =>
    cases o with
    | none => rw [q] at h; cases h
    | some u =>
      rw [q] at h
      obtain ⟨v, r⟩ := repB_ok d u h
      exact ⟨u, v, rfl, r⟩
def glosB (K : PySem.W.Frag) : List Str → List D → Bool
  | [], _ => true
  | x :: xs, d :: ds => atB K mainGlobals x d && glosB K xs ds
  | _, _ => false
theorem glosB_ok {K : PySem.W.Frag} {h : Heap} {mg : Str → Option Value} (X : K.In h) (G : h.Ns mainGlobals mg) : ∀ {xs : List Str} {ds : List D}, glosB K xs ds = true →
    ∀ (g : Nat) (y : Str), xs[g]? = some y → ∃ (u : Value) (v : V) (d : D), mg y = some u ∧ RelV v u ∧ ds[g]? = some d ∧ ∀ H F, Rep K H F v d
  | [], _, _, g, y, e => by simp at e
  | x :: xs, [], c, g, y, e => by cases c
  | x :: xs, d :: ds, c, g, y, e => by
    obtain ⟨c1, c2⟩ := He.ba c
    cases g with
    | zero =>
      cases e
      obtain ⟨u, v, q, r1, r2⟩ := atB_ok c1
      exact ⟨u, v, d, PySem.W.mg_of X G q, r1, rfl, r2⟩
    | succ g => exact glosB_ok X G c2 g y e
def dctsB (K : PySem.W.Frag) : List Str → List (List (Str × D)) → Bool
  | [], _ => true
  | x :: xs, t :: ts => ((He.Fa.glo x).ok K && t.all fun q => atB K (He.ga K x) q.1 q.2) && dctsB K xs ts
  | _, _ => false
theorem look_mem : ∀ {t : List (Str × D)} {z : Str} {d : D}, look t z = some d → (z, d) ∈ t
  | [], _, _, h => by cases h
  | (k, e) :: r, z, d, h => by
    unfold look at h
    split at h
    · rename_i q; cases h; subst q; exact List.mem_cons_self
    · exact List.mem_cons_of_mem _ (look_mem h)
theorem dctsB_ok {w : World} {K : PySem.W.Frag} {h : Heap} {mg : Str → Option Value} (X : K.In h) (G : h.Ns mainGlobals mg) : ∀ {xs : List Str} {ts : List (List (Str × D))}, (∀ (g : Nat) (y : Str), xs[g]? = some y → ∃ es n, KDict K w (He.ga K y) es n) → dctsB K xs ts = true →
    ∀ (g : Nat) (y : Str), xs[g]? = some y → ∃ (a : Addr) (kvs : List (Str × D)), mg y = some (.ref a) ∧ ts[g]? = some kvs ∧ ∀ z d, look kvs z = some d → ∃ v, KDct K w a z v ∧ ∀ H F, Rep K H F v d
  | [], _, _, _, g, y, e => by simp at e
  | x :: xs, [], _, c, g, y, e => by cases c
  | x :: xs, t :: ts, hk, c, g, y, e => by
    obtain ⟨c1, c2⟩ := He.ba c
    cases g with
    | zero =>
      cases e
      obtain ⟨c3, c4⟩ := He.ba c1
      refine ⟨_, t, He.glo_ok X G c3, rfl, fun z d hz => ?_⟩
      obtain ⟨es, n, k1, k2, k3⟩ := hk 0 x rfl
      obtain ⟨u, v, q, r1, r2⟩ := atB_ok (List.all_eq_true.mp c4 _ (look_mem hz))
      exact ⟨v, ⟨es, n, u, k1, k2, q, r1⟩, r2⟩
    | succ g => exact dctsB_ok X G (fun g y hy => hk (g + 1) y hy) c2 g y e
end MP

/-! MP: running a text by rewriting. -/
namespace MP
open PySem L2
/-- a type that names what stands ahead of it: rewriting leaves that alone -/
abbrev Tag0 {γ : Type} (_ : γ) (A : Type) : Type := A
def bX {α β : Type} (f : α → M β) (o : Tag0 f (Out α)) : Out β := bndO o f
def thenO {α : Type} (o : Out α) (f : α → Fr → SOut) : SOut := match o with
  | .ok a fr' => f a fr'
  | .ex x fr' => .ex x fr'
  | .bad => .bad
def tX {α : Type} (f : α → Fr → SOut) (o : Tag0 f (Out α)) : SOut := thenO o f
def qX (f : Fr → SOut) (o : Tag0 f SOut) : SOut := seqS o f
theorem bnd_ap {α β : Type} (m : M α) (f : α → M β) (fr : Fr) : bnd m f fr = bX (f) (m fr) := rfl
theorem bX_ok {α β : Type} (a : α) (fr : Fr) (f : α → M β) : bX (f) (.ok a fr) = f a fr := rfl
theorem thenS_ap {α : Type} (m : M α) (f : α → Fr → SOut) (fr : Fr) : thenS m f fr = tX (f) (m fr) := rfl
theorem tX_ok {α : Type} (a : α) (fr : Fr) (f : α → Fr → SOut) : tX (f) (.ok a fr) = f a fr := rfl
theorem seqS_nx (fr : Fr) (f : Fr → SOut) : qX f (.nx fr) = f fr := rfl
theorem seqS_rt (s : Slot) (fr : Fr) (f : Fr → SOut) : qX f (.rt s fr) = .rt s fr := rfl
theorem seqS_bk (fr : Fr) (f : Fr → SOut) : qX f (.bk fr) = .bk fr := rfl
theorem seqS_ct (fr : Fr) (f : Fr → SOut) : qX f (.ct fr) = .ct fr := rfl
theorem ret_ap {α : Type} (a : α) (fr : Fr) : ret a fr = .ok a fr := rfl
theorem opt_some {α : Type} (a : α) (fr : Fr) : opt (some a) fr = .ok a fr := rfl
theorem when_true {α : Type} (a : α) : when true a = some a := rfl
section
variable (P : Prg) (cl : Calls) (wn : Nat)
/-- the two branches -/
def selS (a b : List S) (r : Tag0 (a, b) Bool) (fr : Fr) : SOut := if r then evB P cl wn a fr else evB P cl wn b fr
def selM {α : Type} (a b : M α) (r : Tag0 (a, b) Bool) : M α := if r then a else b
def forK (t : Tg) (b : List S) (p : Itm) (fr : Fr) : SOut := onFr (unlk p.2) (forL (asgT t) (evB P cl wn b) p.1 fr)
variable (fr : Fr) (i : Nat) (e a b c : E) (es : List E) (o p : Op) (cm cm2 : Cm) (x : List S) (y : List S) (k : Nat) (f : Nat)
theorem evB_nil : evB P cl wn [] fr = .nx fr := rfl
theorem evB_cons (s : S) (r : List S) : evB P cl wn (s :: r) fr = qX (evB P cl wn r) (evS P cl wn s fr) := rfl
theorem evS_asg : evS P cl wn (.asg i e) fr = tX (fun s fr => .nx (fr.set i s)) ((ev P cl e).v fr) := rfl
theorem evS_asgT (ts : List Tg) : evS P cl wn (.asgT ts e) fr = tX (fun _ fr => .nx fr) (bX (fun x => bnd (rdO x) fun d => asgT (.tup ts) d) ((ev P cl e).o fr)) := rfl
theorem evS_aug : evS P cl wn (.aug i o e) fr = tX (fun s fr => .nx (fr.set i s)) (bX (fun x => bnd (ev P cl e).o fun y => bnd (rdO x) fun d => bnd (rdO y) fun e => opt (augop o d e)) (opAt i fr)) := rfl
theorem evS_setix : evS P cl wn (.setix i a e) fr = tX (fun _ fr => .nx fr) (bX (fun d => bnd (ownAt i) fun _ => bnd (ev P cl a).o fun y => bnd (rdO y) fun kd => setAt i d kd) (fz (ev P cl e).v fr)) := rfl
theorem evS_par (ts : List Nat) : evS P cl wn (.par ts es) fr = tX (fun ds fr => if ds.length = ts.length then .nx (sets ts ds fr) else .bad) (vals (evs P cl es) fr) := rfl
theorem sets_nil (ds : List D) : sets [] ds fr = fr := by cases ds <;> rfl
theorem sets_cons (is : List Nat) (d : D) (ds : List D) : sets (i :: is) (d :: ds) fr = sets is ds (fr.set i (.val d)) := rfl
theorem evS_ex : evS P cl wn (.ex e) fr = tX (fun _ fr => .nx fr) ((ev P cl e).v fr) := rfl
theorem evS_ite : evS P cl wn (.ite c x y) fr = tX ((selS P cl wn x y)) ((ev P cl c).t fr) := rfl
theorem evS_for (t : Tg) : evS P cl wn (.for_ t e x) fr = tX ((forK P cl wn t x)) ((ev P cl e).i fr) := rfl
theorem evS_whl : evS P cl wn (.whl c x) fr = whlL (ev P cl c).t (evB P cl wn x) wn fr := rfl
theorem evS_ret : evS P cl wn (.ret e) fr = tX (fun s fr => .rt s fr) (retV e (ev P cl e).v fr) := rfl
theorem evS_retN : evS P cl wn .retN fr = .rt (.val .non) fr := rfl
theorem evS_brk : evS P cl wn .brk fr = .bk fr := rfl
theorem evS_cont : evS P cl wn .cont fr = .ct fr := rfl
theorem evS_pass : evS P cl wn .pass fr = .nx fr := rfl
theorem selS_true : selS P cl wn x y true fr = evB P cl wn x fr := rfl
theorem selS_false : selS P cl wn x y false fr = evB P cl wn y fr := rfl
theorem selM_true {α : Type} (u v : M α) : selM u v true = u := rfl
theorem selM_false {α : Type} (u v : M α) : selM u v false = v := rfl
/-! expressions -/
def slK (s : Slot) : M Opd := ret (.sl s)
def itK (s : Slot) : M Itm := itO (.sl s)
theorem slK_ap (s : Slot) : slK s fr = .ok (.sl s) fr := rfl
theorem itK_ap (s : Slot) : itK s fr = itO (.sl s) fr := rfl
theorem tru_ap (s : Slot) : tru s fr = opt (s.d?.bind truth) fr := rfl
theorem fz_ap (m : M Slot) : fz m fr = bX (fun s => opt s.d?) (m fr) := rfl
theorem var_v : (ev P cl (.var i)).v fr = cap i fr := rfl
theorem var_t : (ev P cl (.var i)).t fr = opt ((fr.sl i).d?.bind truth) fr := rfl
theorem var_o : (ev P cl (.var i)).o fr = opAt i fr := rfl
theorem var_i : (ev P cl (.var i)).i fr = itO (.at i) fr := rfl
theorem int_v (n : Int) : (ev P cl (.int n)).v fr = .ok (.val (.int n)) fr := rfl
theorem int_o (n : Int) : (ev P cl (.int n)).o fr = .ok (.sl (.val (.int n))) fr := rfl
theorem str_v (s : String) : (ev P cl (.str s)).v fr = .ok (.val (.str (Str.ofString s))) fr := rfl
theorem str_o (s : String) : (ev P cl (.str s)).o fr = .ok (.sl (.val (.str (Str.ofString s)))) fr := rfl
theorem bl_v (s : Bool) : (ev P cl (.bl s)).v fr = .ok (.val (.bl s)) fr := rfl
theorem bl_o (s : Bool) : (ev P cl (.bl s)).o fr = .ok (.sl (.val (.bl s))) fr := rfl
theorem bl_t (s : Bool) : (ev P cl (.bl s)).t fr = .ok s fr := rfl
theorem non_v : (ev P cl .non).v fr = .ok (.val .non) fr := rfl
theorem non_o : (ev P cl .non).o fr = .ok (.sl (.val .non)) fr := rfl
theorem glo_v : (ev P cl (.glo i)).v fr = opt (P.glo[i]?.map .val) fr := rfl
theorem glo_o : (ev P cl (.glo i)).o fr = bX (slK) ((ev P cl (.glo i)).v fr) := rfl
theorem glo_i : (ev P cl (.glo i)).i fr = bX (itK) ((ev P cl (.glo i)).v fr) := rfl
theorem tup_v : (ev P cl (.tup es)).v fr = bX (fun ds => if ds.length ≤ sizeLine then ret (.val (.tup ds)) else bad) (vals (evs P cl es) fr) := rfl
theorem tup_o : (ev P cl (.tup es)).o fr = bX (slK) ((ev P cl (.tup es)).v fr) := rfl
theorem tup_i : (ev P cl (.tup es)).i fr = bX (itK) ((ev P cl (.tup es)).v fr) := rfl
theorem lst_v : (ev P cl (.lst es)).v fr = bX (fun ds => if ds.length ≤ sizeLine then ret (.own ds) else bad) (vals (evs P cl es) fr) := rfl
theorem lst_o : (ev P cl (.lst es)).o fr = bX (slK) ((ev P cl (.lst es)).v fr) := rfl
theorem lst_i : (ev P cl (.lst es)).i fr = bX (itK) ((ev P cl (.lst es)).v fr) := rfl
theorem bin_v : (ev P cl (.bin o a b)).v fr = bX (fun x => bnd (ev P cl b).o fun y => bnd (rdO x) fun d => bnd (rdO y) fun e => opt (binop o d e)) ((ev P cl a).o fr) := rfl
theorem bin_o : (ev P cl (.bin o a b)).o fr = bX (slK) ((ev P cl (.bin o a b)).v fr) := rfl
theorem bin_t : (ev P cl (.bin o a b)).t fr = bX (tru) ((ev P cl (.bin o a b)).v fr) := rfl
theorem bin_i : (ev P cl (.bin o a b)).i fr = bX (itK) ((ev P cl (.bin o a b)).v fr) := rfl
def negK (d : D) : M Slot := match d with
  | .int i => ret (.val (.int (-i)))
  | _ => bad
theorem negK_int (n : Int) : negK (.int n) fr = .ok (.val (.int (-n))) fr := rfl
theorem neg_v : (ev P cl (.neg a)).v fr = bX (fun x => bnd (rdO x) negK) ((ev P cl a).o fr) := rfl
theorem neg_o : (ev P cl (.neg a)).o fr = bX (slK) ((ev P cl (.neg a)).v fr) := rfl
theorem not_v : (ev P cl (.not a)).v fr = bX (fun s => bnd (isB s) fun b => ret (.val (.bl (!b)))) ((ev P cl a).v fr) := rfl
theorem not_t : (ev P cl (.not a)).t fr = bX (fun b => ret (!b)) ((ev P cl a).t fr) := rfl
theorem not_o : (ev P cl (.not a)).o fr = bX (slK) ((ev P cl (.not a)).v fr) := rfl
theorem isB_bl (r : Bool) : isB (.val (.bl r)) fr = .ok r fr := rfl
theorem and_v : (ev P cl (.and a b)).v fr = bX (fun s => bnd (isB s) fun c => selM (ev P cl b).v (ret (.val (.bl false))) c) ((ev P cl a).v fr) := rfl
theorem and_t : (ev P cl (.and a b)).t fr = bX (fun c => selM (ev P cl b).t (ret false) c) ((ev P cl a).t fr) := rfl
theorem and_o : (ev P cl (.and a b)).o fr = bX (slK) ((ev P cl (.and a b)).v fr) := rfl
theorem or_v : (ev P cl (.or a b)).v fr = bX (fun s => bnd (isB s) fun c => selM (ret (.val (.bl true))) (ev P cl b).v c) ((ev P cl a).v fr) := rfl
theorem or_t : (ev P cl (.or a b)).t fr = bX (fun c => selM (ret true) (ev P cl b).t c) ((ev P cl a).t fr) := rfl
theorem or_o : (ev P cl (.or a b)).o fr = bX (slK) ((ev P cl (.or a b)).v fr) := rfl
theorem cmp_t : (ev P cl (.cmp cm a b)).t fr = bX (fun x => bnd (ev P cl b).o fun y => bnd (rdO x) fun d => bnd (rdO y) fun e => opt (cmpop cm d e)) ((ev P cl a).o fr) := rfl
theorem cmp_v : (ev P cl (.cmp cm a b)).v fr = bX (fun b => ret (.val (.bl b))) ((ev P cl (.cmp cm a b)).t fr) := rfl
theorem cmp_o : (ev P cl (.cmp cm a b)).o fr = bX (slK) ((ev P cl (.cmp cm a b)).v fr) := rfl
theorem cmp2_t : (ev P cl (.cmp2 cm cm2 a b c)).t fr = bX (fun x => bnd (ev P cl b).o fun y => bnd (rdO x) fun d => bnd (rdO y) fun e => bnd (opt (cmpop cm d e)) fun r => selM (bnd (ev P cl c).o fun z => bnd (rdO y) fun e => bnd (rdO z) fun f => opt (cmpop cm2 e f)) (ret false) r) ((ev P cl a).o fr) := rfl
theorem cmp2_v : (ev P cl (.cmp2 cm cm2 a b c)).v fr = bX (fun b => ret (.val (.bl b))) ((ev P cl (.cmp2 cm cm2 a b c)).t fr) := rfl
theorem cmp2_o : (ev P cl (.cmp2 cm cm2 a b c)).o fr = bX (slK) ((ev P cl (.cmp2 cm cm2 a b c)).v fr) := rfl
theorem ite_v : (ev P cl (.ite c a b)).v fr = bX (fun r => selM (ev P cl a).v (ev P cl b).v r) ((ev P cl c).t fr) := rfl
theorem ite_o : (ev P cl (.ite c a b)).o fr = bX (slK) ((ev P cl (.ite c a b)).v fr) := rfl
theorem ite_i : (ev P cl (.ite c a b)).i fr = bX (itK) ((ev P cl (.ite c a b)).v fr) := rfl
theorem kix_v (g : Nat) : (ev P cl (.kix g a)).v fr = bX (fun y => bnd (rdO y) fun d => opt (kixD P.dct[g]? d)) ((ev P cl a).o fr) := rfl
theorem kix_o (g : Nat) : (ev P cl (.kix g a)).o fr = bX (slK) ((ev P cl (.kix g a)).v fr) := rfl
theorem ix_v : (ev P cl (.ix a b)).v fr = bX (fun x => bnd (ev P cl b).o fun y => bnd (rdO x) fun d => bnd (rdO y) fun e => opt (index d e)) ((ev P cl a).o fr) := rfl
theorem ix_o : (ev P cl (.ix a b)).o fr = bX (slK) ((ev P cl (.ix a b)).v fr) := rfl
theorem ix_t : (ev P cl (.ix a b)).t fr = bX (tru) ((ev P cl (.ix a b)).v fr) := rfl
theorem ix_i : (ev P cl (.ix a b)).i fr = bX (itK) ((ev P cl (.ix a b)).v fr) := rfl
theorem sl_v (lo hi : List E) : (ev P cl (.sl a lo hi)).v fr = bX (fun x => bnd (part ((evs P cl lo).map fun e => fz e.v)) fun l => bnd (part ((evs P cl hi).map fun e => fz e.v)) fun h => bnd (rdO x) fun d => opt (slice d l h)) ((ev P cl a).o fr) := rfl
theorem sl_o (lo hi : List E) : (ev P cl (.sl a lo hi)).o fr = bX (slK) ((ev P cl (.sl a lo hi)).v fr) := rfl
theorem sl_i (lo hi : List E) : (ev P cl (.sl a lo hi)).i fr = bX (itK) ((ev P cl (.sl a lo hi)).v fr) := rfl
theorem rev_v : (ev P cl (.rev a)).v fr = bX (fun x => bnd (rdO x) revK) ((ev P cl a).o fr) := rfl
theorem rev_o : (ev P cl (.rev a)).o fr = bX slK ((ev P cl (.rev a)).v fr) := rfl
theorem rev_i : (ev P cl (.rev a)).i fr = bX itK ((ev P cl (.rev a)).v fr) := rfl
theorem revK_t (xs : List D) : revK (.tup xs) fr = .ok (.val (.tup xs.reverse)) fr := rfl
theorem revK_l (xs : List D) : revK (.lst xs) fr = .ok (.own xs.reverse) fr := rfl
theorem call_v : (ev P cl (.call f es)).v fr = bX (fun os => callM (cl f) os) (args (P.io f) (evs P cl es) fr) := rfl
theorem call_o : (ev P cl (.call f es)).o fr = bX (slK) ((ev P cl (.call f es)).v fr) := rfl
theorem call_t : (ev P cl (.call f es)).t fr = bX (tru) ((ev P cl (.call f es)).v fr) := rfl
theorem call_i : (ev P cl (.call f es)).i fr = bX (itK) ((ev P cl (.call f es)).v fr) := rfl
theorem bi_v (g : Bi) : (ev P cl (.bi g es)).v fr = bX (fun os => bnd (rdOs os) fun ds => opt (bi g ds)) (opds (evs P cl es) fr) := rfl
theorem bi_o (g : Bi) : (ev P cl (.bi g es)).o fr = bX (slK) ((ev P cl (.bi g es)).v fr) := rfl
theorem bi_t (g : Bi) : (ev P cl (.bi g es)).t fr = bX (tru) ((ev P cl (.bi g es)).v fr) := rfl
theorem bi_i (g : Bi) : (ev P cl (.bi g es)).i fr = bX (itK) ((ev P cl (.bi g es)).v fr) := rfl
theorem isi_v (t : Ty) : (ev P cl (.isi t a)).v fr = bX (fun x => bnd (rdO x) fun d => bnd (opt (d.isTy t)) fun b => ret (.val (.bl b))) ((ev P cl a).o fr) := rfl
theorem isi_o (t : Ty) : (ev P cl (.isi t a)).o fr = bX (slK) ((ev P cl (.isi t a)).v fr) := rfl
theorem isi_t (t : Ty) : (ev P cl (.isi t a)).t fr = bX (tru) ((ev P cl (.isi t a)).v fr) := rfl
theorem app_v : (ev P cl (.app i a)).v fr = bX (fun _ => bnd (fz (ev P cl a).v) fun d => chg i fun xs => when (decide (xs.length < sizeLine)) (.val .non, xs ++ [d])) (ownAt i fr) := rfl
def extK (i : Nat) (d : D) : M Slot := match d with
    | .lst ys => chg i fun xs => when (decide (xs.length + ys.length ≤ sizeLine)) (.val .non, xs ++ ys)
    | _ => bad
theorem ext_v : (ev P cl (.ext i a)).v fr = bX (fun _ => bnd (ev P cl a).o fun x => bnd (rdO x) (extK i)) (ownAt i fr) := rfl
theorem pop_v : (ev P cl (.pop i)).v fr = bX (fun _ => chg i fun xs => xs[xs.length - 1]?.map fun d => (.val d, xs.dropLast)) (ownAt i fr) := rfl
theorem pop_o : (ev P cl (.pop i)).o fr = bX (slK) ((ev P cl (.pop i)).v fr) := rfl
theorem revm_v : (ev P cl (.revm i)).v fr = bX (fun _ => chg i fun xs => some (.val .non, xs.reverse)) (ownAt i fr) := rfl
theorem rng_i : (ev P cl (.rng es)).i fr = bX (fun os => bnd (rdOs os) fun ds => bnd (opt (rngI ds)) fun xs => ret (xs, [])) (opds (evs P cl es) fr) := rfl
theorem dic_v (ks : List Key) : (ev P cl (.dic ks es)).v fr = bX (fun ds => if ds.length = ks.length then ret (.val (.dic ks ds)) else bad) (vals (evs P cl es) fr) := rfl
theorem dic_o (ks : List Key) : (ev P cl (.dic ks es)).o fr = bX slK ((ev P cl (.dic ks es)).v fr) := rfl
theorem lrng_v : (ev P cl (.lrng es)).v fr = bX (fun os => bnd (rdOs os) fun ds => bnd (opt (rngI ds)) fun xs => if xs.length ≤ sizeLine then ret (.own xs) else bad) (opds (evs P cl es) fr) := rfl
theorem lrng_o : (ev P cl (.lrng es)).o fr = bX slK ((ev P cl (.lrng es)).v fr) := rfl
theorem lrng_i : (ev P cl (.lrng es)).i fr = bX itK ((ev P cl (.lrng es)).v fr) := rfl
theorem enu_i : (ev P cl (.enu a)).i fr = bX (fun x => bnd (rdO x) fun d => selM (bnd (itO x) fun p => ret (enuI 0 p.1, p.2)) bad (enuOk d)) ((ev P cl a).o fr) := by
  show bnd (ev P cl a).o _ fr = _
  rfl
theorem lc_v (t : Tg) (ifs : List E) (own : List Nat) : (ev P cl (.lc e t a ifs own)).v fr = bX (fun ds => ret (.own ds)) (lcM own (ev P cl a).i (asgT t) (ifsM (evs P cl ifs)) (bnd (fz (ev P cl e).v) fun d => ret [d]) fr) := rfl
theorem lc_o (t : Tg) (ifs : List E) (own : List Nat) : (ev P cl (.lc e t a ifs own)).o fr = bX (slK) ((ev P cl (.lc e t a ifs own)).v fr) := rfl
theorem lc_i (t : Tg) (ifs : List E) (own : List Nat) : (ev P cl (.lc e t a ifs own)).i fr = bX (itK) ((ev P cl (.lc e t a ifs own)).v fr) := rfl
/-! lists of them -/
theorem evs_nil : evs P cl [] = [] := rfl
theorem evs_cons : evs P cl (e :: es) = ev P cl e :: evs P cl es := rfl
theorem vals_nil : vals [] fr = .ok [] fr := rfl
theorem vals_cons (u : Ev) (us : List Ev) : vals (u :: us) fr = bX (fun d => bnd (vals us) fun ds => ret (d :: ds)) (fz u.v fr) := rfl
theorem opds_nil : opds [] fr = .ok [] fr := rfl
theorem opds_cons (u : Ev) (us : List Ev) : opds (u :: us) fr = bX (fun d => bnd (opds us) fun ds => ret (d :: ds)) (u.o fr) := rfl
theorem rdOs_nil : rdOs [] fr = .ok [] fr := rfl
theorem rdOs_cons (u : Opd) (us : List Opd) : rdOs (u :: us) fr = bX (fun d => bnd (rdOs us) fun ds => ret (d :: ds)) (rdO u fr) := rfl
theorem args_nil (io : List Bool) : args io [] fr = .ok [] fr := by cases io <;> rfl
theorem args_t (io : List Bool) (u : Ev) (us : List Ev) : args (true :: io) (u :: us) fr = bX (fun x => bnd (args io us) fun xs => ret (x :: xs)) (u.o fr) := rfl
theorem args_f (io : List Bool) (u : Ev) (us : List Ev) : args (false :: io) (u :: us) fr = bX (fun x => bnd (args io us) fun xs => ret (x :: xs)) (bX (slK) (u.v fr)) := rfl
theorem rdO_at : rdO (.at i) fr = opt (fr.sl i).d? fr := rfl
theorem rdO_sl (s : Slot) : rdO (.sl s) fr = opt s.d? fr := rfl
theorem d_val (d : D) : (Slot.val d).d? = some d := rfl
theorem d_own (d : List D) : (Slot.own d).d? = some (.lst d) := rfl
theorem d_lk (d : List D) : (Slot.lk d).d? = some (.lst d) := rfl
def opAtS (i : Nat) (s : Slot) (fr : Fr) : Out Opd := match s with
  | .un => .bad
  | _ => .ok (.at i) fr
theorem opAt_ap : opAt i fr = opAtS i (fr.sl i) fr := rfl
theorem opAtS_val (d : D) : opAtS i (.val d) fr = .ok (.at i) fr := rfl
theorem opAtS_own (d : List D) : opAtS i (.own d) fr = .ok (.at i) fr := rfl
theorem opAtS_lk (d : List D) : opAtS i (.lk d) fr = .ok (.at i) fr := rfl
def capS (i : Nat) (d : Option D) (fr : Fr) : Out Slot := match d with
  | some d => .ok (.val d) (fr.set i (.val d))
  | none => .bad
theorem cap_ap : cap i fr = capS i (fr.sl i).d? fr := rfl
theorem capS_some (d : D) : capS i (some d) fr = .ok (.val d) (fr.set i (.val d)) := rfl
def retS (i : Nat) (s : Slot) (fr : Fr) : Out Slot := match s with
    | .own xs => .ok (.own xs) (fr.set i .un)
    | _ => cap i fr
theorem retV_var (v : M Slot) : retV (.var i) v fr = retS i (fr.sl i) fr := rfl
theorem retS_own (d : List D) : retS i (.own d) fr = .ok (.own d) (fr.set i .un) := rfl
theorem retS_val (d : D) : retS i (.val d) fr = cap i fr := rfl
def ownS (s : Slot) (fr : Fr) : Out Unit := match s with
  | .own _ => .ok () fr
  | _ => .bad
theorem ownAt_ap : ownAt i fr = ownS (fr.sl i) fr := rfl
theorem ownS_own (d : List D) : ownS (.own d) fr = .ok () fr := rfl
def chgO (i : Nat) (fr : Fr) (o : Option (Slot × List D)) : Out Slot := match o with
    | some (s, ys) => .ok s (fr.set i (.own ys))
    | none => .bad
def chgS (i : Nat) (g : List D → Option (Slot × List D)) (s : Slot) (fr : Fr) : Out Slot := match s with
  | .own xs => chgO i fr (g xs)
  | _ => .bad
theorem chg_ap (g : List D → Option (Slot × List D)) : chg i g fr = chgS i g (fr.sl i) fr := rfl
theorem chgS_own (g : List D → Option (Slot × List D)) (d : List D) : chgS i g (.own d) fr = chgO i fr (g d) := rfl
theorem chgO_some (s : Slot) (d : List D) : chgO i fr (some (s, d)) = .ok s (fr.set i (.own d)) := rfl
theorem setAt_int (d : D) (n : Int) : setAt i d (.int n) = chg i fun xs => (ixN xs.length n).map fun j => (.val .non, xs.set j d) := rfl
def itS (i : Nat) (s : Slot) (fr : Fr) : Out Itm := match s with
    | .own xs => .ok (xs, [i]) (fr.set i (.lk xs))
    | s => opt ((s.d?.bind seqI).map fun xs => (xs, [])) fr
theorem itO_at' : itO (.at i) fr = itS i (fr.sl i) fr := rfl
theorem itS_own (d : List D) : itS i (.own d) fr = .ok (d, [i]) (fr.set i (.lk d)) := rfl
theorem itS_val (d : D) : itS i (.val d) fr = opt ((seqI d).map fun xs => (xs, [])) fr := rfl
theorem itO_sl' (s : Slot) : itO (.sl s) fr = opt ((s.d?.bind seqI).map fun xs => (xs, [])) fr := rfl
theorem part_nil : part [] fr = .ok none fr := rfl
def partK (d : D) : M (Option Int) := match d with
    | .int i => ret (some i)
    | _ => bad
theorem part_cons (m : M D) (r : List (M D)) : part (m :: r) fr = bX (partK) (m fr) := rfl
theorem partK_int (n : Int) : partK (.int n) fr = .ok (some n) fr := rfl
theorem extK_lst (ys : List D) : extK i (.lst ys) = chg i fun xs => when (decide (xs.length + ys.length ≤ sizeLine)) (.val .non, xs ++ ys) := rfl
/-! calls -/
def endC (os : List Opd) (fr : Fr) (c : COut) : Out Slot := match c with
  | .ok s ps => .ok s (backs os ps fr)
  | .ex x ps => .ex x (backs os ps fr)
  | .bad => .bad
theorem callM_ap (g : List Slot → COut) (os : List Opd) : callM g os fr = bX (fun ss fr => endC os fr (g ss)) (takes os fr) := rfl
theorem endC_ok (os : List Opd) (s : Slot) (ps : List Slot) : endC os fr (.ok s ps) = .ok s (backs os ps fr) := rfl
theorem takes_nil : takes [] fr = .ok [] fr := rfl
theorem takes_at (r : List Opd) : takes (.at i :: r) fr = bX (fun ss => ret (fr.sl i :: ss)) (takes r (fr.set i .un)) := rfl
theorem takes_sl (s : Slot) (r : List Opd) : takes (.sl s :: r) fr = bX (fun ss => ret (s :: ss)) (takes r fr) := rfl
theorem backs_at (r : List Opd) (s : Slot) (ss : List Slot) : backs (.at i :: r) (s :: ss) fr = backs r ss (fr.set i s) := rfl
theorem backs_sl (r : List Opd) (t s : Slot) (ss : List Slot) : backs (.sl t :: r) (s :: ss) fr = backs r ss fr := rfl
theorem backs_nil (ss : List Slot) : backs [] ss fr = fr := by cases ss <;> rfl
theorem lent_t (io : List Bool) (s : Slot) (r : Fr) : lent (true :: io) (s :: r) = s :: lent io r := rfl
theorem lent_f (io : List Bool) (s : Slot) (r : Fr) : lent (false :: io) (s :: r) = .un :: lent io r := rfl
theorem lent_n (r : Fr) : lent [] r = [] := rfl
theorem endF_rt (io : List Bool) (s : Slot) : endF io (.rt s fr) = .ok s (lent io fr) := rfl
theorem endF_nx (io : List Bool) : endF io (.nx fr) = .ok (.val .non) (lent io fr) := rfl
theorem onFr_nx (g : Fr → Fr) : onFr g (.nx fr) = .nx (g fr) := rfl
theorem onFr_rt (g : Fr → Fr) (s : Slot) : onFr g (.rt s fr) = .rt s (g fr) := rfl
theorem unlk_nil : unlk [] fr = fr := rfl
end
theorem callF_succ (P : Prg) (wn k : Nat) {i : Nat} {d : Fn} (h : P.fns[i]? = some d) (as : List Slot) (hl : as.length = d.io.length) :
    callF P wn (k + 1) i as = endF d.io (evB P (callF P wn k) wn d.body (as ++ List.replicate (d.ns - d.io.length) .un)) := by
  show (match P.fns[i]? with
    | some d => runF P (callF P wn k) wn d as
    | none => .bad) = _
  rw [h]
  show runF P (callF P wn k) wn d as = _
  unfold runF
  rw [if_pos hl]
theorem retV_int (n : Int) (v : M Slot) : retV (.int n) v = v := rfl
theorem retV_str (n : String) (v : M Slot) : retV (.str n) v = v := rfl
theorem retV_bl (n : Bool) (v : M Slot) : retV (.bl n) v = v := rfl
theorem retV_non  (v : M Slot) : retV (.non) v = v := rfl
theorem retV_glo (n : Nat) (v : M Slot) : retV (.glo n) v = v := rfl
theorem retV_tup (es : List E) (v : M Slot) : retV (.tup es) v = v := rfl
theorem retV_lst (es : List E) (v : M Slot) : retV (.lst es) v = v := rfl
theorem retV_dic (ks : List Key) (es : List E) (v : M Slot) : retV (.dic ks es) v = v := rfl
theorem retV_bin (o : Op) (a b : E) (v : M Slot) : retV (.bin o a b) v = v := rfl
theorem retV_neg (a : E) (v : M Slot) : retV (.neg a) v = v := rfl
theorem retV_not (a : E) (v : M Slot) : retV (.not a) v = v := rfl
theorem retV_and (a b : E) (v : M Slot) : retV (.and a b) v = v := rfl
theorem retV_or (a b : E) (v : M Slot) : retV (.or a b) v = v := rfl
theorem retV_cmp (o : Cm) (a b : E) (v : M Slot) : retV (.cmp o a b) v = v := rfl
theorem retV_cmp2 (o p : Cm) (a b c : E) (v : M Slot) : retV (.cmp2 o p a b c) v = v := rfl
theorem retV_ite (a b c : E) (v : M Slot) : retV (.ite a b c) v = v := rfl
theorem retV_kix (g : Nat) (a : E) (v : M Slot) : retV (.kix g a) v = v := rfl
theorem retV_ix (a b : E) (v : M Slot) : retV (.ix a b) v = v := rfl
theorem retV_sl (a : E) (l h : List E) (v : M Slot) : retV (.sl a l h) v = v := rfl
theorem retV_rev (a : E) (v : M Slot) : retV (.rev a) v = v := rfl
theorem retV_call (f : Nat) (es : List E) (v : M Slot) : retV (.call f es) v = v := rfl
theorem retV_bi (f : Bi) (es : List E) (v : M Slot) : retV (.bi f es) v = v := rfl
theorem retV_isi (t : Ty) (a : E) (v : M Slot) : retV (.isi t a) v = v := rfl
theorem retV_mt (m : Mt) (a : E) (es : List E) (v : M Slot) : retV (.mt m a es) v = v := rfl
theorem retV_pop (i : Nat) (v : M Slot) : retV (.pop i) v = v := rfl
theorem retV_lrng (es : List E) (v : M Slot) : retV (.lrng es) v = v := rfl
theorem retV_lc (el : E) (t : Tg) (it : E) (ifs : List E) (own : List Nat) (v : M Slot) : retV (.lc el t it ifs own) v = v := rfl
theorem retV_fs (es : List E) (v : M Slot) : retV (.fs es) v = v := rfl
/-! slots -/
theorem sl0 (a : Slot) (r : Fr) : Fr.sl (a :: r) 0 = a := rfl
theorem sl1 (a b : Slot) (r : Fr) : Fr.sl (a :: b :: r) 1 = b := rfl
theorem sl2 (a b c : Slot) (r : Fr) : Fr.sl (a :: b :: c :: r) 2 = c := rfl
theorem sl3 (a b c d : Slot) (r : Fr) : Fr.sl (a :: b :: c :: d :: r) 3 = d := rfl
theorem sl4 (a b c d e : Slot) (r : Fr) : Fr.sl (a :: b :: c :: d :: e :: r) 4 = e := rfl
theorem sl5 (a b c d e f : Slot) (r : Fr) : Fr.sl (a :: b :: c :: d :: e :: f :: r) 5 = f := rfl
theorem sl6 (a b c d e f g : Slot) (r : Fr) : Fr.sl (a :: b :: c :: d :: e :: f :: g :: r) 6 = g := rfl
theorem sl7 (a b c d e f g h : Slot) (r : Fr) : Fr.sl (a :: b :: c :: d :: e :: f :: g :: h :: r) 7 = h := rfl
theorem slS (a b c d e f g h : Slot) (r : Fr) (n : Nat) : Fr.sl (a :: b :: c :: d :: e :: f :: g :: h :: r) (n + 8) = Fr.sl r n := rfl
theorem sl8 (a b c d e f g h i : Slot) (r : Fr) : Fr.sl (a :: b :: c :: d :: e :: f :: g :: h :: i :: r) 8 = i := rfl
theorem sl9 (a b c d e f g h i j : Slot) (r : Fr) : Fr.sl (a :: b :: c :: d :: e :: f :: g :: h :: i :: j :: r) 9 = j := rfl
theorem sl10 (a b c d e f g h i j k : Slot) (r : Fr) : Fr.sl (a :: b :: c :: d :: e :: f :: g :: h :: i :: j :: k :: r) 10 = k := rfl
theorem sl11 (a b c d e f g h i j k l : Slot) (r : Fr) : Fr.sl (a :: b :: c :: d :: e :: f :: g :: h :: i :: j :: k :: l :: r) 11 = l := rfl
theorem set0 {α : Type} (a x : α) (r : List α) : (a :: r).set 0 x = x :: r := rfl
theorem set1 {α : Type} (a b x : α) (r : List α) : (a :: b :: r).set 1 x = a :: x :: r := rfl
theorem set2 {α : Type} (a b c x : α) (r : List α) : (a :: b :: c :: r).set 2 x = a :: b :: x :: r := rfl
theorem set3 {α : Type} (a b c d x : α) (r : List α) : (a :: b :: c :: d :: r).set 3 x = a :: b :: c :: x :: r := rfl
theorem set4 {α : Type} (a b c d e x : α) (r : List α) : (a :: b :: c :: d :: e :: r).set 4 x = a :: b :: c :: d :: x :: r := rfl
theorem set5 {α : Type} (a b c d e f x : α) (r : List α) : (a :: b :: c :: d :: e :: f :: r).set 5 x = a :: b :: c :: d :: e :: x :: r := rfl
theorem set6 {α : Type} (a b c d e f g x : α) (r : List α) : (a :: b :: c :: d :: e :: f :: g :: r).set 6 x = a :: b :: c :: d :: e :: f :: x :: r := rfl
theorem set7 {α : Type} (a b c d e f g h x : α) (r : List α) : (a :: b :: c :: d :: e :: f :: g :: h :: r).set 7 x = a :: b :: c :: d :: e :: f :: g :: x :: r := rfl
theorem set8 {α : Type} (a b c d e f g h i x : α) (r : List α) : (a :: b :: c :: d :: e :: f :: g :: h :: i :: r).set 8 x = a :: b :: c :: d :: e :: f :: g :: h :: x :: r := rfl
theorem set9 {α : Type} (a b c d e f g h i j x : α) (r : List α) : (a :: b :: c :: d :: e :: f :: g :: h :: i :: j :: r).set 9 x = a :: b :: c :: d :: e :: f :: g :: h :: i :: x :: r := rfl
theorem set10 {α : Type} (a b c d e f g h i j k x : α) (r : List α) : (a :: b :: c :: d :: e :: f :: g :: h :: i :: j :: k :: r).set 10 x = a :: b :: c :: d :: e :: f :: g :: h :: i :: j :: x :: r := rfl
theorem set11 {α : Type} (a b c d e f g h i j k l x : α) (r : List α) : (a :: b :: c :: d :: e :: f :: g :: h :: i :: j :: k :: l :: r).set 11 x = a :: b :: c :: d :: e :: f :: g :: h :: i :: j :: k :: x :: r := rfl
/-! what operators do -/
theorem add_i (i j : Int) : binop .add (.int i) (.int j) = some (.val (.int (i + j))) := rfl
theorem sub_i (i j : Int) : binop .sub (.int i) (.int j) = some (.val (.int (i - j))) := rfl
theorem mul_i (i j : Int) : binop .mul (.int i) (.int j) = when (mulOk i j) (.val (.int (i * j))) := rfl
theorem fdiv_i (i j : Int) : binop .fdiv (.int i) (.int j) = when (decide (0 < j) && decide (j < 2 ^ 256)) (.val (.int (i / j))) := rfl
theorem mod_i (i j : Int) : binop .mod (.int i) (.int j) = when (decide (0 < j)) (.val (.int (i % j))) := rfl
theorem pow_i (i j : Int) : binop .pow (.int i) (.int j) = when (powOk i j) (.val (.int (i ^ j.toNat))) := rfl
theorem shl_i (i j : Int) : binop .shl (.int i) (.int j) = when (powOk i j) (.val (.int (i * 2 ^ j.toNat))) := rfl
theorem shr_i (i j : Int) : binop .shr (.int i) (.int j) = when (decide (0 ≤ j)) (.val (.int (i / 2 ^ j.toNat))) := rfl
theorem and_i (i j : Int) : binop .and (.int i) (.int j) = some (.val (.int (Builtin.bitAnd i j))) := rfl
theorem or_i (i j : Int) : binop .or (.int i) (.int j) = some (.val (.int (Builtin.bitOr i j))) := rfl
theorem xor_i (i j : Int) : binop .xor (.int i) (.int j) = some (.val (.int (Builtin.bitXor i j))) := rfl
theorem when_pos {α : Type} {c : Bool} (h : c = true) (a : α) : when c a = some a := by rw [h]; rfl
theorem mulOk_r {i j : Int} (h : -(2 ^ 64) < j ∧ j < 2 ^ 64) : mulOk i j = true := by
  unfold mulOk; rw [decide_eq_true h.1, decide_eq_true h.2]; simp
theorem mulOk_l {i j : Int} (h : -(2 ^ 64) < i ∧ i < 2 ^ 64) : mulOk i j = true := by
  unfold mulOk; rw [decide_eq_true h.1, decide_eq_true h.2]; simp
theorem eq_i (i j : Int) : cmpop .eq (.int i) (.int j) = some (i == j) := rfl
theorem ne_i (i j : Int) : cmpop .ne (.int i) (.int j) = some (!(i == j)) := rfl
theorem lt_i (i j : Int) : cmpop .lt (.int i) (.int j) = some (decide (i < j)) := rfl
theorem le_i (i j : Int) : cmpop .le (.int i) (.int j) = some (decide (i ≤ j)) := rfl
theorem gt_i (i j : Int) : cmpop .gt (.int i) (.int j) = some (decide (j < i)) := rfl
theorem ge_i (i j : Int) : cmpop .ge (.int i) (.int j) = some (decide (j ≤ i)) := rfl
theorem eq_s (i j : Str) : cmpop .eq (.str i) (.str j) = some (decide (i = j)) := rfl
theorem ne_s (i j : Str) : cmpop .ne (.str i) (.str j) = some (!decide (i = j)) := rfl
theorem ix_l (xs : List D) (i : Int) : index (.lst xs) (.int i) = (atI xs i).map .val := rfl
theorem ix_t' (xs : List D) (i : Int) : index (.tup xs) (.int i) = (atI xs i).map .val := rfl
theorem ixN_ok {n : Nat} {i : Int} (h0 : 0 ≤ i) (h1 : i < n) : ixN n i = some i.toNat := by
  unfold ixN; rw [if_pos h0, if_pos h1]
theorem atI_ok {α : Type} {xs : List α} {i : Int} (h0 : 0 ≤ i) (h1 : i < xs.length) : atI xs i = xs[i.toNat]? := by
  unfold atI; rw [ixN_ok h0 h1]; rfl
theorem len_l (xs : List D) : bi .len [.lst xs] = some (.val (.int xs.length)) := rfl
theorem len_t (xs : List D) : bi .len [.tup xs] = some (.val (.int xs.length)) := rfl
theorem abs_i (i : Int) : bi .abs [.int i] = some (.val (.int (if i < 0 then -i else i))) := rfl
theorem int_i (i : Int) : bi .int [.int i] = some (.val (.int i)) := rfl
theorem max_i (i j : Int) : bi .max [.int i, .int j] = some (.val (.int (if j > i then j else i))) := rfl
theorem min_i (i j : Int) : bi .min [.int i, .int j] = some (.val (.int (if j < i then j else i))) := rfl
theorem list_l (xs : List D) : bi .list [.lst xs] = some (.own xs) := rfl
theorem list_t (xs : List D) : bi .list [.tup xs] = some (.own xs) := rfl
theorem list_s (xs : List Int) : bi .list [.scr xs] = some (.own (xs.map .int)) := rfl
theorem tuple_l (xs : List D) : bi .tuple [.lst xs] = some (.val (.tup xs)) := rfl
theorem omap_some {α β : Type} (f : α → β) (a : α) : Option.map f (some a) = some (f a) := rfl
theorem obind_some {α β : Type} (f : α → Option β) (a : α) : (some a).bind f = f a := rfl
end MP

/-! MP: the laws' tape. -/
namespace MP
open PySem L2
def drawF : Fn := ⟨4, [true, false], [
  .ite (.cmp .eq (.ix (.var 0) (.int 2)) (.int 0)) [
    .asg 2 (.ix (.var 0) (.int 1)),
    .asg 3 (.int 0),
    .ite (.cmp .lt (.var 2) (.bi .len [.ix (.var 0) (.int 0)])) [
      .asg 3 (.bi .abs [.bi .int [.ix (.ix (.var 0) (.int 0)) (.var 2)]])] [
      .setix 0 (.int 3) (.bin .mod (.bi .int [.bin .add (.bin .add (.bin .mul (.ix (.var 0) (.int 3)) (.int 48271)) (.var 2)) (.int 1)]) (.int 2147483647)),
      .asg 3 (.ix (.var 0) (.int 3))],
    .setix 0 (.int 1) (.bin .add (.var 2) (.int 1)),
    .ite (.cmp .lt (.var 3) (.bin .pow (.int 10) (.int 18))) [
      .asg 3 (.bin .mod (.bi .int [.bin .add (.bin .add (.bin .mul (.var 3) (.int 48271)) (.bin .mul (.var 2) (.int 69621))) (.int 5)]) (.int 2147483647)),
      .asg 3 (.bin .mod (.bi .int [.bin .mul (.var 3) (.int 69621)]) (.int 2147483629)),
      .ret (.bin .mod (.bi .int [.var 3]) (.bi .max [.var 1, .int 1]))] [],
    .setix 0 (.int 2) (.var 3)] [],
  .asg 3 (.ix (.var 0) (.int 2)),
  .setix 0 (.int 2) (.bin .fdiv (.var 3) (.bi .max [.var 1, .int 2])),
  .ret (.bin .mod (.bi .int [.var 3]) (.bi .max [.var 1, .int 1]))]⟩
def tapeF : Fn := ⟨3, [false], [
  .asg 1 (.int 7),
  .for_ (.v 2) (.var 0) [
    .asg 1 (.bin .mod (.bi .int [.bin .add (.bin .mul (.var 1) (.int 31)) (.bi .abs [.bi .int [.var 2]])]) (.int 2147483647))],
  .ret (.lst [.bi .list [.var 0], .int 0, .int 0, .var 1])]⟩
/-- a tape -/
def tape (ns : List Int) (p c t : Int) : List D := [.lst (ns.map .int), .int p, .int c, .int t]
theorem t4_0 {α : Type} (a b c d : α) : atI [a, b, c, d] 0 = some a := rfl
theorem t4_1 {α : Type} (a b c d : α) : atI [a, b, c, d] 1 = some b := rfl
theorem t4_2 {α : Type} (a b c d : α) : atI [a, b, c, d] 2 = some c := rfl
theorem t4_3 {α : Type} (a b c d : α) : atI [a, b, c, d] 3 = some d := rfl
theorem x4_1 {α : Type} (a b c d : α) : ixN [a, b, c, d].length 1 = some 1 := rfl
theorem x4_2 {α : Type} (a b c d : α) : ixN [a, b, c, d].length 2 = some 2 := rfl
theorem x4_3 {α : Type} (a b c d : α) : ixN [a, b, c, d].length 3 = some 3 := rfl
theorem max1 (m : Int) : (0 : Int) < (if (1 : Int) > m then 1 else m) := by split <;> omega
theorem max2 (m : Int) : (0 : Int) < (if (2 : Int) > m then 2 else m) := by split <;> omega
theorem max2b {m : Int} (h : m < 2 ^ 64) : (if (2 : Int) > m then 2 else m) < 2 ^ 256 := by split <;> omega
theorem m31 (i : Int) : mulOk i 31 = true := mulOk_r (by decide)
theorem m48271 (i : Int) : mulOk i 48271 = true := mulOk_r (by decide)
theorem m69621 (i : Int) : mulOk i 69621 = true := mulOk_r (by decide)
theorem p18 : powOk 10 18 = true := by decide
section
variable {P : Prg} {wn k i : Nat}
/-- the second half of a draw -/
theorem draw_rest (ns : List Int) (p c t m : Int) (x y : Slot) (hm : m < 2 ^ 64) (hc : 0 ≤ c) :
    endF [true, false] (evB P (callF P wn k) wn [
  .asg 3 (.ix (.var 0) (.int 2)),
  .setix 0 (.int 2) (.bin .fdiv (.var 3) (.bi .max [.var 1, .int 2])),
  .ret (.bin .mod (.bi .int [.var 3]) (.bi .max [.var 1, .int 1]))] [.own (tape ns p c t), .val (.int m), x, y]) =
    .ok (.val (.int (c % (if (1 : Int) > m then 1 else m)))) [.own (tape ns p (c / (if (2 : Int) > m then 2 else m)) t), .un] := by
  simp only [bnd_ap, bX_ok, thenS_ap, tX_ok, seqS_nx, seqS_rt, seqS_bk, seqS_ct, ret_ap, opt_some, when_true, evB_nil, evB_cons, evS_asg, evS_asgT, evS_aug, evS_setix, evS_par, sets_nil, sets_cons, evS_ex, evS_ite, evS_for, evS_whl, evS_ret, evS_retN, evS_brk, evS_cont, evS_pass, selS_true, selS_false, selM_true, selM_false, slK_ap, itK_ap, tru_ap, fz_ap, var_v, var_t, var_o, var_i, int_v, int_o, str_v, str_o, bl_v, bl_o, bl_t, non_v, non_o, glo_v, glo_o, glo_i, tup_v, tup_o, tup_i, lst_v, lst_o, lst_i, bin_v, bin_o, bin_t, bin_i, negK_int, neg_v, neg_o, not_v, not_t, not_o, isB_bl, and_v, and_t, and_o, or_v, or_t, or_o, cmp_t, cmp_v, cmp_o, cmp2_t, cmp2_v, cmp2_o, ite_v, ite_o, ite_i, kix_v, kix_o, ix_v, ix_o, ix_t, ix_i, sl_v, sl_o, sl_i, rev_v, rev_o, rev_i, revK_t, revK_l, call_v, call_o, call_t, call_i, bi_v, bi_o, bi_t, bi_i, isi_v, isi_o, isi_t, app_v, ext_v, pop_v, pop_o, revm_v, rng_i, dic_v, dic_o, lrng_v, lrng_o, lrng_i, enu_i, lc_v, lc_o, lc_i, evs_nil, evs_cons, vals_nil, vals_cons, opds_nil, opds_cons, rdOs_nil, rdOs_cons, args_nil, args_t, args_f, rdO_at, rdO_sl, d_val, d_own, d_lk, opAt_ap, opAtS_val, opAtS_own, opAtS_lk, cap_ap, capS_some, retV_var, retS_own, retS_val, ownAt_ap, ownS_own, chg_ap, chgS_own, chgO_some, setAt_int, itO_at', itS_own, itS_val, itO_sl', part_nil, part_cons, partK_int, extK_lst, callM_ap, endC_ok, takes_nil, takes_at, takes_sl, backs_at, backs_sl, backs_nil, lent_t, lent_f, lent_n, endF_rt, endF_nx, onFr_nx, onFr_rt, unlk_nil, retV_int, retV_str, retV_bl, retV_non, retV_glo, retV_tup, retV_lst, retV_dic, retV_bin, retV_neg, retV_not, retV_and, retV_or, retV_cmp, retV_cmp2, retV_ite, retV_kix, retV_ix, retV_sl, retV_rev, retV_call, retV_bi, retV_isi, retV_mt, retV_pop, retV_lrng, retV_lc, retV_fs, sl0, sl1, sl2, sl3, sl4, sl5, sl6, sl7, sl8, sl9, sl10, sl11, set0, set1, set2, set3, set4, set5, set6, set7, set8, set9, set10, set11, add_i, sub_i, mul_i, fdiv_i, mod_i, pow_i, shl_i, shr_i, and_i, or_i, xor_i, eq_i, ne_i, lt_i, le_i, gt_i, ge_i, eq_s, ne_s, ix_l, ix_t', len_l, len_t, abs_i, int_i, max_i, min_i, list_l, list_t, list_s, tuple_l, omap_some, obind_some, tape, t4_2, x4_2, max1, max2, max2b hm, decide_true, Bool.and_self]
/-- where a tape may stand -/
structure Tp (xs : List D) : Prop where
  ex : ∃ (ns : List Int) (p c t : Int), xs = tape ns p c t ∧ 0 ≤ p ∧ 0 ≤ c ∧ 0 ≤ t
theorem max1_ok {c m : Int} : 0 ≤ c % (if (1 : Int) > m then 1 else m) ∧ (1 ≤ m → c % (if (1 : Int) > m then 1 else m) < m) ∧ (m ≤ 1 → c % (if (1 : Int) > m then 1 else m) = 0) := by
  split
  · exact ⟨by omega, by omega, by omega⟩
  · exact ⟨Int.emod_nonneg _ (by omega), fun _ => Int.emod_lt_of_pos _ (by omega), fun h => by
      have : m = 1 := by omega
      subst this; omega⟩
theorem max2_ok {c m : Int} (h : 0 ≤ c) : 0 ≤ c / (if (2 : Int) > m then 2 else m) := Int.ediv_nonneg h (by split <;> omega)
theorem cabs (i : Int) : (0 : Int) ≤ if i < 0 then -i else i := by split <;> omega
/-- A DRAW: a number below m; the tape goes on -/
theorem draw_ok (hf : P.fns[i]? = some drawF) {xs : List D} (h : Tp xs) (m : Int) (hm : m < 2 ^ 64) :
    ∃ (r : Int) (ys : List D), callF P wn (k + 1) i [.own xs, .val (.int m)] = .ok (.val (.int r)) [.own ys, .un] ∧ Tp ys ∧ 0 ≤ r ∧ (1 ≤ m → r < m) ∧ (m ≤ 1 → r = 0) := by
  obtain ⟨ns, p, c, t, rfl, hp, hc, ht⟩ := h
  rw [callF_succ P wn k hf _ rfl]
  have e0 : ([.own (tape ns p c t), .val (.int m)] ++ List.replicate (drawF.ns - drawF.io.length) .un : Fr) = [.own (tape ns p c t), .val (.int m), .un, .un] := rfl
  rw [e0]
  have rest : ∀ (p c t : Int) (x y : Slot), 0 ≤ p → 0 ≤ c → 0 ≤ t → ∃ (r : Int) (ys : List D), endF [true, false] (evB P (callF P wn k) wn [
  .asg 3 (.ix (.var 0) (.int 2)),
  .setix 0 (.int 2) (.bin .fdiv (.var 3) (.bi .max [.var 1, .int 2])),
  .ret (.bin .mod (.bi .int [.var 3]) (.bi .max [.var 1, .int 1]))] [.own (tape ns p c t), .val (.int m), x, y]) = .ok (.val (.int r)) [.own ys, .un] ∧ Tp ys ∧ 0 ≤ r ∧ (1 ≤ m → r < m) ∧ (m ≤ 1 → r = 0) := fun p c t x y hp hc ht =>
    ⟨_, _, draw_rest ns p c t m x y hm hc, ⟨⟨ns, p, _, t, rfl, hp, max2_ok hc, ht⟩⟩, max1_ok⟩
  unfold drawF
  dsimp only
  rw [evB_cons]
  by_cases h0 : c = 0
  · subst h0
    have last : ∀ (n : Int) (t : Int), 0 ≤ n → 0 ≤ t → ∃ (r : Int) (ys : List D), endF [true, false] (qX (evB P (callF P wn k) wn [
      .asg 3 (.ix (.var 0) (.int 2)),
      .setix 0 (.int 2) (.bin .fdiv (.var 3) (.bi .max [.var 1, .int 2])),
      .ret (.bin .mod (.bi .int [.var 3]) (.bi .max [.var 1, .int 1]))]) (evB P (callF P wn k) wn [
      .setix 0 (.int 1) (.bin .add (.var 2) (.int 1)),
      .ite (.cmp .lt (.var 3) (.bin .pow (.int 10) (.int 18))) [
        .asg 3 (.bin .mod (.bi .int [.bin .add (.bin .add (.bin .mul (.var 3) (.int 48271)) (.bin .mul (.var 2) (.int 69621))) (.int 5)]) (.int 2147483647)),
        .asg 3 (.bin .mod (.bi .int [.bin .mul (.var 3) (.int 69621)]) (.int 2147483629)),
        .ret (.bin .mod (.bi .int [.var 3]) (.bi .max [.var 1, .int 1]))] [],
      .setix 0 (.int 2) (.var 3)] [.own (tape ns p 0 t), .val (.int m), .val (.int p), .val (.int n)])) = .ok (.val (.int r)) [.own ys, .un] ∧ Tp ys ∧ 0 ≤ r ∧ (1 ≤ m → r < m) ∧ (m ≤ 1 → r = 0) := by
      intro n t hn ht
      by_cases hl : n < 10 ^ 18
      · have hl' : decide (n < (10 : Int) ^ (18 : Int).toNat) = true := decide_eq_true hl
        have d1 : decide ((0 : Int) < 2147483647) = true := rfl
        have d2 : decide ((0 : Int) < 2147483629) = true := rfl
        refine ⟨((n * 48271 + p * 69621 + 5) % 2147483647 * 69621 % 2147483629) % (if (1 : Int) > m then 1 else m), tape ns (p + 1) 0 t, ?_, ⟨⟨ns, p + 1, 0, t, rfl, by omega, by omega, ht⟩⟩, max1_ok⟩
        simp only [bnd_ap, bX_ok, thenS_ap, tX_ok, seqS_nx, seqS_rt, seqS_bk, seqS_ct, ret_ap, opt_some, when_true, evB_nil, evB_cons, evS_asg, evS_asgT, evS_aug, evS_setix, evS_par, sets_nil, sets_cons, evS_ex, evS_ite, evS_for, evS_whl, evS_ret, evS_retN, evS_brk, evS_cont, evS_pass, selS_true, selS_false, selM_true, selM_false, slK_ap, itK_ap, tru_ap, fz_ap, var_v, var_t, var_o, var_i, int_v, int_o, str_v, str_o, bl_v, bl_o, bl_t, non_v, non_o, glo_v, glo_o, glo_i, tup_v, tup_o, tup_i, lst_v, lst_o, lst_i, bin_v, bin_o, bin_t, bin_i, negK_int, neg_v, neg_o, not_v, not_t, not_o, isB_bl, and_v, and_t, and_o, or_v, or_t, or_o, cmp_t, cmp_v, cmp_o, cmp2_t, cmp2_v, cmp2_o, ite_v, ite_o, ite_i, kix_v, kix_o, ix_v, ix_o, ix_t, ix_i, sl_v, sl_o, sl_i, rev_v, rev_o, rev_i, revK_t, revK_l, call_v, call_o, call_t, call_i, bi_v, bi_o, bi_t, bi_i, isi_v, isi_o, isi_t, app_v, ext_v, pop_v, pop_o, revm_v, rng_i, dic_v, dic_o, lrng_v, lrng_o, lrng_i, enu_i, lc_v, lc_o, lc_i, evs_nil, evs_cons, vals_nil, vals_cons, opds_nil, opds_cons, rdOs_nil, rdOs_cons, args_nil, args_t, args_f, rdO_at, rdO_sl, d_val, d_own, d_lk, opAt_ap, opAtS_val, opAtS_own, opAtS_lk, cap_ap, capS_some, retV_var, retS_own, retS_val, ownAt_ap, ownS_own, chg_ap, chgS_own, chgO_some, setAt_int, itO_at', itS_own, itS_val, itO_sl', part_nil, part_cons, partK_int, extK_lst, callM_ap, endC_ok, takes_nil, takes_at, takes_sl, backs_at, backs_sl, backs_nil, lent_t, lent_f, lent_n, endF_rt, endF_nx, onFr_nx, onFr_rt, unlk_nil, retV_int, retV_str, retV_bl, retV_non, retV_glo, retV_tup, retV_lst, retV_dic, retV_bin, retV_neg, retV_not, retV_and, retV_or, retV_cmp, retV_cmp2, retV_ite, retV_kix, retV_ix, retV_sl, retV_rev, retV_call, retV_bi, retV_isi, retV_mt, retV_pop, retV_lrng, retV_lc, retV_fs, sl0, sl1, sl2, sl3, sl4, sl5, sl6, sl7, sl8, sl9, sl10, sl11, set0, set1, set2, set3, set4, set5, set6, set7, set8, set9, set10, set11, add_i, sub_i, mul_i, fdiv_i, mod_i, pow_i, shl_i, shr_i, and_i, or_i, xor_i, eq_i, ne_i, lt_i, le_i, gt_i, ge_i, eq_s, ne_s, ix_l, ix_t', len_l, len_t, abs_i, int_i, max_i, min_i, list_l, list_t, list_s, tuple_l, omap_some, obind_some, tape, t4_2, x4_1, max1, decide_true, p18, hl', m48271, m69621, d1, d2]
      · have hl' : decide (n < (10 : Int) ^ (18 : Int).toNat) = false := decide_eq_false hl
        have := rest (p + 1) n t (.val (.int p)) (.val (.int n)) (by omega) hn ht
        simp only [bnd_ap, bX_ok, thenS_ap, tX_ok, seqS_nx, seqS_rt, seqS_bk, seqS_ct, ret_ap, opt_some, when_true, evB_nil, evB_cons, evS_asg, evS_asgT, evS_aug, evS_setix, evS_par, sets_nil, sets_cons, evS_ex, evS_ite, evS_for, evS_whl, evS_ret, evS_retN, evS_brk, evS_cont, evS_pass, selS_true, selS_false, selM_true, selM_false, slK_ap, itK_ap, tru_ap, fz_ap, var_v, var_t, var_o, var_i, int_v, int_o, str_v, str_o, bl_v, bl_o, bl_t, non_v, non_o, glo_v, glo_o, glo_i, tup_v, tup_o, tup_i, lst_v, lst_o, lst_i, bin_v, bin_o, bin_t, bin_i, negK_int, neg_v, neg_o, not_v, not_t, not_o, isB_bl, and_v, and_t, and_o, or_v, or_t, or_o, cmp_t, cmp_v, cmp_o, cmp2_t, cmp2_v, cmp2_o, ite_v, ite_o, ite_i, kix_v, kix_o, ix_v, ix_o, ix_t, ix_i, sl_v, sl_o, sl_i, rev_v, rev_o, rev_i, revK_t, revK_l, call_v, call_o, call_t, call_i, bi_v, bi_o, bi_t, bi_i, isi_v, isi_o, isi_t, app_v, ext_v, pop_v, pop_o, revm_v, rng_i, dic_v, dic_o, lrng_v, lrng_o, lrng_i, enu_i, lc_v, lc_o, lc_i, evs_nil, evs_cons, vals_nil, vals_cons, opds_nil, opds_cons, rdOs_nil, rdOs_cons, args_nil, args_t, args_f, rdO_at, rdO_sl, d_val, d_own, d_lk, opAt_ap, opAtS_val, opAtS_own, opAtS_lk, cap_ap, capS_some, retV_var, retS_own, retS_val, ownAt_ap, ownS_own, chg_ap, chgS_own, chgO_some, setAt_int, itO_at', itS_own, itS_val, itO_sl', part_nil, part_cons, partK_int, extK_lst, callM_ap, endC_ok, takes_nil, takes_at, takes_sl, backs_at, backs_sl, backs_nil, lent_t, lent_f, lent_n, endF_rt, endF_nx, onFr_nx, onFr_rt, unlk_nil, retV_int, retV_str, retV_bl, retV_non, retV_glo, retV_tup, retV_lst, retV_dic, retV_bin, retV_neg, retV_not, retV_and, retV_or, retV_cmp, retV_cmp2, retV_ite, retV_kix, retV_ix, retV_sl, retV_rev, retV_call, retV_bi, retV_isi, retV_mt, retV_pop, retV_lrng, retV_lc, retV_fs, sl0, sl1, sl2, sl3, sl4, sl5, sl6, sl7, sl8, sl9, sl10, sl11, set0, set1, set2, set3, set4, set5, set6, set7, set8, set9, set10, set11, add_i, sub_i, mul_i, fdiv_i, mod_i, pow_i, shl_i, shr_i, and_i, or_i, xor_i, eq_i, ne_i, lt_i, le_i, gt_i, ge_i, eq_s, ne_s, ix_l, ix_t', len_l, len_t, abs_i, int_i, max_i, min_i, list_l, list_t, list_s, tuple_l, omap_some, obind_some, tape, t4_2, x4_1, x4_2, max1, decide_true, p18, hl', m48271, m69621] at this ⊢
        exact this
    by_cases h1 : p < (ns.map D.int).length
    · have e1 : decide (p < ((ns.map D.int).length : Int)) = true := decide_eq_true h1
      have h2 : p.toNat < ns.length := by rw [List.length_map] at h1; omega
      have e2 : atI (ns.map D.int) p = some (.int ns[p.toNat]) := by
        rw [atI_ok hp h1, List.getElem?_map, List.getElem?_eq_getElem h2]; rfl
      have := last (if ns[p.toNat] < 0 then -ns[p.toNat] else ns[p.toNat]) t (cabs _) ht
      simp only [bnd_ap, bX_ok, thenS_ap, tX_ok, seqS_nx, seqS_rt, seqS_bk, seqS_ct, ret_ap, opt_some, when_true, evB_nil, evB_cons, evS_asg, evS_asgT, evS_aug, evS_setix, evS_par, sets_nil, sets_cons, evS_ex, evS_ite, evS_for, evS_whl, evS_ret, evS_retN, evS_brk, evS_cont, evS_pass, selS_true, selS_false, selM_true, selM_false, slK_ap, itK_ap, tru_ap, fz_ap, var_v, var_t, var_o, var_i, int_v, int_o, str_v, str_o, bl_v, bl_o, bl_t, non_v, non_o, glo_v, glo_o, glo_i, tup_v, tup_o, tup_i, lst_v, lst_o, lst_i, bin_v, bin_o, bin_t, bin_i, negK_int, neg_v, neg_o, not_v, not_t, not_o, isB_bl, and_v, and_t, and_o, or_v, or_t, or_o, cmp_t, cmp_v, cmp_o, cmp2_t, cmp2_v, cmp2_o, ite_v, ite_o, ite_i, kix_v, kix_o, ix_v, ix_o, ix_t, ix_i, sl_v, sl_o, sl_i, rev_v, rev_o, rev_i, revK_t, revK_l, call_v, call_o, call_t, call_i, bi_v, bi_o, bi_t, bi_i, isi_v, isi_o, isi_t, app_v, ext_v, pop_v, pop_o, revm_v, rng_i, dic_v, dic_o, lrng_v, lrng_o, lrng_i, enu_i, lc_v, lc_o, lc_i, evs_nil, evs_cons, vals_nil, vals_cons, opds_nil, opds_cons, rdOs_nil, rdOs_cons, args_nil, args_t, args_f, rdO_at, rdO_sl, d_val, d_own, d_lk, opAt_ap, opAtS_val, opAtS_own, opAtS_lk, cap_ap, capS_some, retV_var, retS_own, retS_val, ownAt_ap, ownS_own, chg_ap, chgS_own, chgO_some, setAt_int, itO_at', itS_own, itS_val, itO_sl', part_nil, part_cons, partK_int, extK_lst, callM_ap, endC_ok, takes_nil, takes_at, takes_sl, backs_at, backs_sl, backs_nil, lent_t, lent_f, lent_n, endF_rt, endF_nx, onFr_nx, onFr_rt, unlk_nil, retV_int, retV_str, retV_bl, retV_non, retV_glo, retV_tup, retV_lst, retV_dic, retV_bin, retV_neg, retV_not, retV_and, retV_or, retV_cmp, retV_cmp2, retV_ite, retV_kix, retV_ix, retV_sl, retV_rev, retV_call, retV_bi, retV_isi, retV_mt, retV_pop, retV_lrng, retV_lc, retV_fs, sl0, sl1, sl2, sl3, sl4, sl5, sl6, sl7, sl8, sl9, sl10, sl11, set0, set1, set2, set3, set4, set5, set6, set7, set8, set9, set10, set11, add_i, sub_i, mul_i, fdiv_i, mod_i, pow_i, shl_i, shr_i, and_i, or_i, xor_i, eq_i, ne_i, lt_i, le_i, gt_i, ge_i, eq_s, ne_s, ix_l, ix_t', len_l, len_t, abs_i, int_i, max_i, min_i, list_l, list_t, list_s, tuple_l, omap_some, obind_some, tape, t4_0, t4_1, t4_2, e1, e2, beq_self_eq_true] at this ⊢
      exact this
    · have e1 : decide (p < ((ns.map D.int).length : Int)) = false := decide_eq_false h1
      have := last ((t * 48271 + p + 1) % 2147483647) ((t * 48271 + p + 1) % 2147483647) (by omega) (by omega)
      have d1 : decide ((0 : Int) < 2147483647) = true := rfl
      simp only [bnd_ap, bX_ok, thenS_ap, tX_ok, seqS_nx, seqS_rt, seqS_bk, seqS_ct, ret_ap, opt_some, when_true, evB_nil, evB_cons, evS_asg, evS_asgT, evS_aug, evS_setix, evS_par, sets_nil, sets_cons, evS_ex, evS_ite, evS_for, evS_whl, evS_ret, evS_retN, evS_brk, evS_cont, evS_pass, selS_true, selS_false, selM_true, selM_false, slK_ap, itK_ap, tru_ap, fz_ap, var_v, var_t, var_o, var_i, int_v, int_o, str_v, str_o, bl_v, bl_o, bl_t, non_v, non_o, glo_v, glo_o, glo_i, tup_v, tup_o, tup_i, lst_v, lst_o, lst_i, bin_v, bin_o, bin_t, bin_i, negK_int, neg_v, neg_o, not_v, not_t, not_o, isB_bl, and_v, and_t, and_o, or_v, or_t, or_o, cmp_t, cmp_v, cmp_o, cmp2_t, cmp2_v, cmp2_o, ite_v, ite_o, ite_i, kix_v, kix_o, ix_v, ix_o, ix_t, ix_i, sl_v, sl_o, sl_i, rev_v, rev_o, rev_i, revK_t, revK_l, call_v, call_o, call_t, call_i, bi_v, bi_o, bi_t, bi_i, isi_v, isi_o, isi_t, app_v, ext_v, pop_v, pop_o, revm_v, rng_i, dic_v, dic_o, lrng_v, lrng_o, lrng_i, enu_i, lc_v, lc_o, lc_i, evs_nil, evs_cons, vals_nil, vals_cons, opds_nil, opds_cons, rdOs_nil, rdOs_cons, args_nil, args_t, args_f, rdO_at, rdO_sl, d_val, d_own, d_lk, opAt_ap, opAtS_val, opAtS_own, opAtS_lk, cap_ap, capS_some, retV_var, retS_own, retS_val, ownAt_ap, ownS_own, chg_ap, chgS_own, chgO_some, setAt_int, itO_at', itS_own, itS_val, itO_sl', part_nil, part_cons, partK_int, extK_lst, callM_ap, endC_ok, takes_nil, takes_at, takes_sl, backs_at, backs_sl, backs_nil, lent_t, lent_f, lent_n, endF_rt, endF_nx, onFr_nx, onFr_rt, unlk_nil, retV_int, retV_str, retV_bl, retV_non, retV_glo, retV_tup, retV_lst, retV_dic, retV_bin, retV_neg, retV_not, retV_and, retV_or, retV_cmp, retV_cmp2, retV_ite, retV_kix, retV_ix, retV_sl, retV_rev, retV_call, retV_bi, retV_isi, retV_mt, retV_pop, retV_lrng, retV_lc, retV_fs, sl0, sl1, sl2, sl3, sl4, sl5, sl6, sl7, sl8, sl9, sl10, sl11, set0, set1, set2, set3, set4, set5, set6, set7, set8, set9, set10, set11, add_i, sub_i, mul_i, fdiv_i, mod_i, pow_i, shl_i, shr_i, and_i, or_i, xor_i, eq_i, ne_i, lt_i, le_i, gt_i, ge_i, eq_s, ne_s, ix_l, ix_t', len_l, len_t, abs_i, int_i, max_i, min_i, list_l, list_t, list_s, tuple_l, omap_some, obind_some, tape, t4_0, t4_1, t4_2, t4_3, x4_3, e1, m48271, d1, beq_self_eq_true] at this ⊢
      exact this
  · have e1 : (c == 0) = false := by simpa using h0
    have := rest p c t .un .un hp hc ht
    simp only [bnd_ap, bX_ok, thenS_ap, tX_ok, seqS_nx, seqS_rt, seqS_bk, seqS_ct, ret_ap, opt_some, when_true, evB_nil, evB_cons, evS_asg, evS_asgT, evS_aug, evS_setix, evS_par, sets_nil, sets_cons, evS_ex, evS_ite, evS_for, evS_whl, evS_ret, evS_retN, evS_brk, evS_cont, evS_pass, selS_true, selS_false, selM_true, selM_false, slK_ap, itK_ap, tru_ap, fz_ap, var_v, var_t, var_o, var_i, int_v, int_o, str_v, str_o, bl_v, bl_o, bl_t, non_v, non_o, glo_v, glo_o, glo_i, tup_v, tup_o, tup_i, lst_v, lst_o, lst_i, bin_v, bin_o, bin_t, bin_i, negK_int, neg_v, neg_o, not_v, not_t, not_o, isB_bl, and_v, and_t, and_o, or_v, or_t, or_o, cmp_t, cmp_v, cmp_o, cmp2_t, cmp2_v, cmp2_o, ite_v, ite_o, ite_i, kix_v, kix_o, ix_v, ix_o, ix_t, ix_i, sl_v, sl_o, sl_i, rev_v, rev_o, rev_i, revK_t, revK_l, call_v, call_o, call_t, call_i, bi_v, bi_o, bi_t, bi_i, isi_v, isi_o, isi_t, app_v, ext_v, pop_v, pop_o, revm_v, rng_i, dic_v, dic_o, lrng_v, lrng_o, lrng_i, enu_i, lc_v, lc_o, lc_i, evs_nil, evs_cons, vals_nil, vals_cons, opds_nil, opds_cons, rdOs_nil, rdOs_cons, args_nil, args_t, args_f, rdO_at, rdO_sl, d_val, d_own, d_lk, opAt_ap, opAtS_val, opAtS_own, opAtS_lk, cap_ap, capS_some, retV_var, retS_own, retS_val, ownAt_ap, ownS_own, chg_ap, chgS_own, chgO_some, setAt_int, itO_at', itS_own, itS_val, itO_sl', part_nil, part_cons, partK_int, extK_lst, callM_ap, endC_ok, takes_nil, takes_at, takes_sl, backs_at, backs_sl, backs_nil, lent_t, lent_f, lent_n, endF_rt, endF_nx, onFr_nx, onFr_rt, unlk_nil, retV_int, retV_str, retV_bl, retV_non, retV_glo, retV_tup, retV_lst, retV_dic, retV_bin, retV_neg, retV_not, retV_and, retV_or, retV_cmp, retV_cmp2, retV_ite, retV_kix, retV_ix, retV_sl, retV_rev, retV_call, retV_bi, retV_isi, retV_mt, retV_pop, retV_lrng, retV_lc, retV_fs, sl0, sl1, sl2, sl3, sl4, sl5, sl6, sl7, sl8, sl9, sl10, sl11, set0, set1, set2, set3, set4, set5, set6, set7, set8, set9, set10, set11, add_i, sub_i, mul_i, fdiv_i, mod_i, pow_i, shl_i, shr_i, and_i, or_i, xor_i, eq_i, ne_i, lt_i, le_i, gt_i, ge_i, eq_s, ne_s, ix_l, ix_t', len_l, len_t, abs_i, int_i, max_i, min_i, list_l, list_t, list_s, tuple_l, omap_some, obind_some, tape, t4_2, e1] at this ⊢
    exact this
end
/-! ### loops -/
section
variable {tgt : D → M Unit} {body : Fr → SOut}
/-- one turn -/
def turnO (tgt : D → M Unit) (body : Fr → SOut) (x : D) (fr : Fr) : SOut := tX (fun _ => body) (tgt x fr)
theorem turnO_ap (tgt : D → M Unit) (body : Fr → SOut) (x : D) (fr : Fr) : turnO tgt body x fr = tX (fun _ => body) (tgt x fr) := rfl
theorem forL_cons (x : D) (r : List D) (fr : Fr) : forL tgt body (x :: r) fr = match turnO tgt body x fr with
    | .nx fr' => forL tgt body r fr'
    | .ct fr' => forL tgt body r fr'
    | .bk fr' => .nx fr'
    | o => o := rfl
/-- a loop to its end -/
theorem forL_ix (I : Nat → Fr → Prop) : ∀ (xs : List D) (n : Nat) (fr : Fr), I n fr → (∀ j x fr, xs[j]? = some x → I (n + j) fr → ∃ fr', I (n + j + 1) fr' ∧ (turnO tgt body x fr = .nx fr' ∨ turnO tgt body x fr = .ct fr')) → ∃ fr', I (n + xs.length) fr' ∧ forL tgt body xs fr = .nx fr'
  | [], n, fr, h, _ => ⟨fr, h, rfl⟩
  | x :: r, n, fr, h, st => by
    obtain ⟨fr1, h1, e⟩ := st 0 x fr rfl h
    obtain ⟨fr2, h2, e2⟩ := forL_ix I r (n + 1) fr1 h1 fun j y fr hj hi => by
      have := st (j + 1) y fr (by simpa using hj)
      have e : n + 1 + j = n + (j + 1) := by omega
      rw [e] at hi ⊢
      exact this hi
    refine ⟨fr2, ?_, ?_⟩
    · have e : n + (x :: r).length = n + 1 + r.length := by rw [List.length_cons]; omega
      rw [e]; exact h2
    · rw [forL_cons]
      rcases e with e | e <;> (rw [e]; exact e2)
theorem forL_inv (I : Fr → Prop) (xs : List D) (fr : Fr) (h : I fr) (st : ∀ x fr, x ∈ xs → I fr → ∃ fr', I fr' ∧ (turnO tgt body x fr = .nx fr' ∨ turnO tgt body x fr = .ct fr')) : ∃ fr', I fr' ∧ forL tgt body xs fr = .nx fr' := by
  obtain ⟨fr', h1, h2⟩ := forL_ix (tgt := tgt) (body := body) (fun _ fr => I fr) xs 0 fr h fun j x fr hj hi => st x fr (List.mem_of_getElem? hj) hi
  exact ⟨fr', h1, h2⟩
/-- a loop that may be left -/
theorem forL_out (I : Nat → Fr → Prop) (R : SOut → Prop) : ∀ (xs : List D) (n : Nat) (fr : Fr), I n fr →
    (∀ j x fr, xs[j]? = some x → I (n + j) fr → (∃ fr', I (n + j + 1) fr' ∧ (turnO tgt body x fr = .nx fr' ∨ turnO tgt body x fr = .ct fr')) ∨ (∃ fr', turnO tgt body x fr = .bk fr' ∧ R (.nx fr')) ∨ ∃ s fr', turnO tgt body x fr = .rt s fr' ∧ R (.rt s fr')) →
    (∃ fr', I (n + xs.length) fr' ∧ forL tgt body xs fr = .nx fr') ∨ R (forL tgt body xs fr)
  | [], n, fr, h, _ => .inl ⟨fr, h, rfl⟩
  | x :: r, n, fr, h, st => by
    rcases st 0 x fr rfl h with ⟨fr1, h1, e⟩ | ⟨fr1, e, h1⟩ | ⟨s, fr1, e, h1⟩
    · have ih := forL_out I R r (n + 1) fr1 h1 fun j y fr hj hi => by
        have := st (j + 1) y fr (by simpa using hj)
        have e : n + 1 + j = n + (j + 1) := by omega
        rw [e] at hi ⊢
        exact this hi
      have e2 : forL tgt body (x :: r) fr = forL tgt body r fr1 := by
        rw [forL_cons]
        rcases e with e | e <;> rw [e]
      rw [e2]
      have e : n + (x :: r).length = n + 1 + r.length := by rw [List.length_cons]; omega
      rw [e]; exact ih
    · refine .inr ?_
      rw [forL_cons, e]; exact h1
    · refine .inr ?_
      rw [forL_cons, e]; exact h1
end
section
variable {own : List Nat} {tgt : D → M Unit} {ifs : M Bool} {el : M (List D)}
def lcStep (own : List Nat) (tgt : D → M Unit) (ifs : M Bool) (el : M (List D)) (x : D) (fr : Fr) : Out (List D) := bndO (tgt x (wipeF own fr)) fun _ => bnd ifs fun b => selM el (ret []) b
theorem lcStep_ap (own : List Nat) (tgt : D → M Unit) (ifs : M Bool) (el : M (List D)) (x : D) (fr : Fr) : lcStep own tgt ifs el x fr = bX (fun _ => bnd ifs fun b => selM el (ret []) b) (tgt x (wipeF own fr)) := rfl
theorem lcL_cons (x : D) (r : List D) (fr : Fr) : lcL own tgt ifs el (x :: r) fr = bndO (lcStep own tgt ifs el x fr) fun d => bnd (lcL own tgt ifs el r) fun ds => ret (d ++ ds) := by
  show bndO (tgt x (wipeF own fr)) (fun _ => bnd ifs fun b => bnd (if b then el else ret []) fun d => bnd (lcL own tgt ifs el r) fun ds => ret (d ++ ds)) = bndO (bndO (tgt x (wipeF own fr)) fun _ => bnd ifs fun b => selM el (ret []) b) _
  cases tgt x (wipeF own fr) with
  | ok u fr1 =>
    show bndO (ifs fr1) _ = bndO (bndO (ifs fr1) _) _
    cases ifs fr1 <;> rfl
  | ex _ _ => rfl
  | bad => rfl
/-- what the items give -/
inductive LcR (g : D → List D → Prop) : List D → List D → Prop
  | nil : LcR g [] []
  | cons {x : D} {xs ds es : List D} : g x ds → LcR g xs es → LcR g (x :: xs) (ds ++ es)
theorem lcL_gen (I : Fr → Prop) (g : D → List D → Prop) : ∀ (xs : List D) (fr : Fr), I fr → (∀ x fr, x ∈ xs → I fr → ∃ ds fr', lcStep own tgt ifs el x fr = .ok ds fr' ∧ I fr' ∧ g x ds) → ∃ ds fr', lcL own tgt ifs el xs fr = .ok ds fr' ∧ I fr' ∧ LcR g xs ds
  | [], fr, h, _ => ⟨[], fr, rfl, h, .nil⟩
  | x :: r, fr, h, st => by
    obtain ⟨ds, fr1, e, h1, hg⟩ := st x fr List.mem_cons_self h
    obtain ⟨es, fr2, e2, h2, hr⟩ := lcL_gen I g r fr1 h1 fun y fr hy => st y fr (List.mem_cons_of_mem _ hy)
    refine ⟨ds ++ es, fr2, ?_, h2, .cons hg hr⟩
    rw [lcL_cons, e]
    show bndO (lcL own tgt ifs el r fr1) _ = _
    rw [e2]; rfl
theorem LcR.map {xs ds : List D} {F : D → List D} (h : LcR (fun x d => d = F x) xs ds) : ds = xs.flatMap F := by
  induction h with
  | nil => rfl
  | cons e _ ih => rw [e, ih]; rfl
theorem LcR.all {Pd : D → Prop} {xs ds : List D} (h : LcR (fun _ d => ∃ y, d = [y] ∧ Pd y) xs ds) : ds.length = xs.length ∧ ∀ y ∈ ds, Pd y := by
  induction h with
  | nil => exact ⟨rfl, fun y h => by cases h⟩
  | cons e _ ih =>
    obtain ⟨y, rfl, hy⟩ := e
    refine ⟨by simp [ih.1], fun z hz => ?_⟩
    rcases List.mem_cons.mp hz with q | q
    · rw [q]; exact hy
    · exact ih.2 z q
end
def lcEnd (own : List Nat) (fr : Fr) (lk : List Nat) (o : Out (List D)) : Out (List D) := lcE own fr lk o
theorem lcM_ap (own : List Nat) (it : M Itm) (tgt : D → M Unit) (ifs : M Bool) (el : M (List D)) (fr : Fr) : lcM own it tgt ifs el fr = bX (fun p fr => lcEnd own fr p.2 (lcL own tgt ifs el p.1 fr)) (it fr) := rfl
theorem lcEnd_ok {own : List Nat} {fr fr' : Fr} {lk : List Nat} {ds : List D} (h : ds.length < sizeLine) : lcEnd own fr lk (.ok ds fr') = .ok ds (unlk lk (putF own fr fr')) := by
  show (if ds.length < sizeLine then Out.ok ds (unlk lk (putF own fr fr')) else .bad) = _
  rw [if_pos h]
theorem wipeF_nil (fr : Fr) : wipeF [] fr = fr := rfl
theorem wipeF_cons (i : Nat) (r : List Nat) (fr : Fr) : wipeF (i :: r) fr = (wipeF r fr).set i .un := rfl
theorem putF_nil (old fr : Fr) : putF [] old fr = fr := rfl
theorem putF_cons (i : Nat) (r : List Nat) (old fr : Fr) : putF (i :: r) old fr = (putF r old fr).set i (old.sl i) := rfl
theorem ifsM_nil (fr : Fr) : ifsM [] fr = .ok true fr := rfl
theorem ifsM_cons (e : Ev) (fr : Fr) : ifsM [e] fr = e.t fr := by
  show bnd e.t _ fr = _
  unfold bnd
  cases e.t fr with
  | ok b fr' => cases b <;> rfl
  | ex _ _ => rfl
  | bad => rfl
theorem asgT_v (i : Nat) (d : D) (fr : Fr) : asgT (.v i) d fr = .ok () (fr.set i (.val d)) := rfl
theorem asgT_tup (ts : List Tg) (ds : List D) (fr : Fr) : asgT (.tup ts) (.tup ds) fr = asgTs ts ds fr := rfl
theorem asgTs_nil (fr : Fr) : asgTs [] [] fr = .ok () fr := rfl
theorem asgTs_cons (t : Tg) (ts : List Tg) (d : D) (ds : List D) (fr : Fr) : asgTs (t :: ts) (d :: ds) fr = bX (fun _ => asgTs ts ds) (asgT t d fr) := rfl
theorem seqI_l (xs : List D) : seqI (.lst xs) = some xs := rfl
theorem seqI_t (xs : List D) : seqI (.tup xs) = some xs := rfl
theorem seqI_s (xs : List Int) : seqI (.scr xs) = some (xs.map .int) := rfl
theorem forK_ap (P : Prg) (cl : Calls) (wn : Nat) (t : Tg) (b : List S) (p : Itm) (fr : Fr) : forK P cl wn t b p fr = onFr (unlk p.2) (forL (asgT t) (evB P cl wn b) p.1 fr) := rfl
theorem rng1 {j : Int} (h : inRg j = true) : rngI [.int j] = some (upto 0 j.toNat) := by show when (inRg j) _ = _; rw [h]; rfl
theorem inRg_of {j : Int} (h : -(2 ^ 62) ≤ j) (h2 : j < 2 ^ 62) : inRg j = true := by unfold inRg; rw [decide_eq_true h, decide_eq_true h2]; rfl
theorem upto_mem {n : Nat} {lo : Int} {d : D} (h : d ∈ upto lo n) : ∃ i : Int, d = .int i ∧ lo ≤ i ∧ i < lo + n := by
  obtain ⟨j, hj, e⟩ := List.getElem_of_mem h
  rw [upto_len] at hj
  have := upto_get n lo j hj
  rw [List.getElem?_eq_getElem (by rw [upto_len]; exact hj), e] at this
  exact ⟨lo + j, Option.some.inj this, by omega, by omega⟩
section
variable {P : Prg} {wn k i : Nat}
/-- THE TAPE -/
theorem tape_ok (hf : P.fns[i]? = some tapeF) (ns : List Int) (hn : ns.length ≤ 63) : ∃ xs, callF P wn (k + 1) i [.val (.scr ns)] = .ok (.own xs) [.un] ∧ Tp xs := by
  rw [callF_succ P wn k hf _ rfl]
  have e0 : ([.val (.scr ns)] ++ List.replicate (tapeF.ns - tapeF.io.length) .un : Fr) = [.val (.scr ns), .un, .un] := rfl
  rw [e0]
  obtain ⟨fr', ⟨a, y, ha, rfl⟩, e⟩ := forL_inv (tgt := asgT (.v 2)) (body := evB P (callF P wn k) wn [
    .asg 1 (.bin .mod (.bi .int [.bin .add (.bin .mul (.var 1) (.int 31)) (.bi .abs [.bi .int [.var 2]])]) (.int 2147483647))])
    (fun fr => ∃ (a : Int) (y : Slot), 0 ≤ a ∧ fr = [.val (.scr ns), .val (.int a), y]) (ns.map .int) [.val (.scr ns), .val (.int 7), .un] ⟨7, _, by decide, rfl⟩ fun x fr hx hi => by
      obtain ⟨a, y, ha, rfl⟩ := hi
      obtain ⟨z, _, rfl⟩ := List.mem_map.mp hx
      have d1 : decide ((0 : Int) < 2147483647) = true := rfl
      refine ⟨_, ⟨(a * 31 + if z < 0 then -z else z) % 2147483647, .val (.int z), by omega, rfl⟩, .inl ?_⟩
      simp only [turnO_ap, asgT_v, bnd_ap, bX_ok, thenS_ap, tX_ok, seqS_nx, seqS_rt, seqS_bk, seqS_ct, ret_ap, opt_some, when_true, evB_nil, evB_cons, evS_asg, evS_asgT, evS_aug, evS_setix, evS_par, sets_nil, sets_cons, evS_ex, evS_ite, evS_for, evS_whl, evS_ret, evS_retN, evS_brk, evS_cont, evS_pass, selS_true, selS_false, selM_true, selM_false, slK_ap, itK_ap, tru_ap, fz_ap, var_v, var_t, var_o, var_i, int_v, int_o, str_v, str_o, bl_v, bl_o, bl_t, non_v, non_o, glo_v, glo_o, glo_i, tup_v, tup_o, tup_i, lst_v, lst_o, lst_i, bin_v, bin_o, bin_t, bin_i, negK_int, neg_v, neg_o, not_v, not_t, not_o, isB_bl, and_v, and_t, and_o, or_v, or_t, or_o, cmp_t, cmp_v, cmp_o, cmp2_t, cmp2_v, cmp2_o, ite_v, ite_o, ite_i, kix_v, kix_o, ix_v, ix_o, ix_t, ix_i, sl_v, sl_o, sl_i, rev_v, rev_o, rev_i, revK_t, revK_l, call_v, call_o, call_t, call_i, bi_v, bi_o, bi_t, bi_i, isi_v, isi_o, isi_t, app_v, ext_v, pop_v, pop_o, revm_v, rng_i, dic_v, dic_o, lrng_v, lrng_o, lrng_i, enu_i, lc_v, lc_o, lc_i, evs_nil, evs_cons, vals_nil, vals_cons, opds_nil, opds_cons, rdOs_nil, rdOs_cons, args_nil, args_t, args_f, rdO_at, rdO_sl, d_val, d_own, d_lk, opAt_ap, opAtS_val, opAtS_own, opAtS_lk, cap_ap, capS_some, retV_var, retS_own, retS_val, ownAt_ap, ownS_own, chg_ap, chgS_own, chgO_some, setAt_int, itO_at', itS_own, itS_val, itO_sl', part_nil, part_cons, partK_int, extK_lst, callM_ap, endC_ok, takes_nil, takes_at, takes_sl, backs_at, backs_sl, backs_nil, lent_t, lent_f, lent_n, endF_rt, endF_nx, onFr_nx, onFr_rt, unlk_nil, retV_int, retV_str, retV_bl, retV_non, retV_glo, retV_tup, retV_lst, retV_dic, retV_bin, retV_neg, retV_not, retV_and, retV_or, retV_cmp, retV_cmp2, retV_ite, retV_kix, retV_ix, retV_sl, retV_rev, retV_call, retV_bi, retV_isi, retV_mt, retV_pop, retV_lrng, retV_lc, retV_fs, sl0, sl1, sl2, sl3, sl4, sl5, sl6, sl7, sl8, sl9, sl10, sl11, set0, set1, set2, set3, set4, set5, set6, set7, set8, set9, set10, set11, add_i, sub_i, mul_i, fdiv_i, mod_i, pow_i, shl_i, shr_i, and_i, or_i, xor_i, eq_i, ne_i, lt_i, le_i, gt_i, ge_i, eq_s, ne_s, ix_l, ix_t', len_l, len_t, abs_i, int_i, max_i, min_i, list_l, list_t, list_s, tuple_l, omap_some, obind_some, m31, d1]
  have d3 : decide ((0 : Int) < 2147483647) = true := rfl
  have hs : ([D.lst (ns.map D.int), .int 0, .int 0, .int a] : List D).length ≤ sizeLine := by rw [sizeLine_eq]; show 4 ≤ _; decide
  refine ⟨tape ns 0 0 a, ?_, ⟨⟨ns, 0, 0, a, rfl, by decide, by decide, ha⟩⟩⟩
  unfold tapeF
  simp only [bnd_ap, bX_ok, thenS_ap, tX_ok, seqS_nx, seqS_rt, seqS_bk, seqS_ct, ret_ap, opt_some, when_true, evB_nil, evB_cons, evS_asg, evS_asgT, evS_aug, evS_setix, evS_par, sets_nil, sets_cons, evS_ex, evS_ite, evS_for, evS_whl, evS_ret, evS_retN, evS_brk, evS_cont, evS_pass, selS_true, selS_false, selM_true, selM_false, slK_ap, itK_ap, tru_ap, fz_ap, var_v, var_t, var_o, var_i, int_v, int_o, str_v, str_o, bl_v, bl_o, bl_t, non_v, non_o, glo_v, glo_o, glo_i, tup_v, tup_o, tup_i, lst_v, lst_o, lst_i, bin_v, bin_o, bin_t, bin_i, negK_int, neg_v, neg_o, not_v, not_t, not_o, isB_bl, and_v, and_t, and_o, or_v, or_t, or_o, cmp_t, cmp_v, cmp_o, cmp2_t, cmp2_v, cmp2_o, ite_v, ite_o, ite_i, kix_v, kix_o, ix_v, ix_o, ix_t, ix_i, sl_v, sl_o, sl_i, rev_v, rev_o, rev_i, revK_t, revK_l, call_v, call_o, call_t, call_i, bi_v, bi_o, bi_t, bi_i, isi_v, isi_o, isi_t, app_v, ext_v, pop_v, pop_o, revm_v, rng_i, dic_v, dic_o, lrng_v, lrng_o, lrng_i, enu_i, lc_v, lc_o, lc_i, evs_nil, evs_cons, vals_nil, vals_cons, opds_nil, opds_cons, rdOs_nil, rdOs_cons, args_nil, args_t, args_f, rdO_at, rdO_sl, d_val, d_own, d_lk, opAt_ap, opAtS_val, opAtS_own, opAtS_lk, cap_ap, capS_some, retV_var, retS_own, retS_val, ownAt_ap, ownS_own, chg_ap, chgS_own, chgO_some, setAt_int, itO_at', itS_own, itS_val, itO_sl', part_nil, part_cons, partK_int, extK_lst, callM_ap, endC_ok, takes_nil, takes_at, takes_sl, backs_at, backs_sl, backs_nil, lent_t, lent_f, lent_n, endF_rt, endF_nx, onFr_nx, onFr_rt, unlk_nil, retV_int, retV_str, retV_bl, retV_non, retV_glo, retV_tup, retV_lst, retV_dic, retV_bin, retV_neg, retV_not, retV_and, retV_or, retV_cmp, retV_cmp2, retV_ite, retV_kix, retV_ix, retV_sl, retV_rev, retV_call, retV_bi, retV_isi, retV_mt, retV_pop, retV_lrng, retV_lc, retV_fs, sl0, sl1, sl2, sl3, sl4, sl5, sl6, sl7, sl8, sl9, sl10, sl11, set0, set1, set2, set3, set4, set5, set6, set7, set8, set9, set10, set11, add_i, sub_i, mul_i, fdiv_i, mod_i, pow_i, shl_i, shr_i, and_i, or_i, xor_i, eq_i, ne_i, lt_i, le_i, gt_i, ge_i, eq_s, ne_s, ix_l, ix_t', len_l, len_t, abs_i, int_i, max_i, min_i, list_l, list_t, list_s, tuple_l, omap_some, obind_some, seqI_s, forK_ap, e, if_pos hs]
  rfl
end
end MP

/-! MP: what many laws use: is it this integer, powers of two, codes. -/
namespace MP
open PySem L2
def isIntF : Fn := ⟨2, [false, false], [
  .ret (.and (.isi .int (.var 0)) (.and (.not (.isi .bool (.var 0))) (.cmp .eq (.var 0) (.var 1))))]⟩
def powerF : Fn := ⟨3, [false], [
  .asg 1 (.int 1),
  .for_ (.v 2) (.rng [.var 0]) [
    .asg 1 (.bin .mul (.var 1) (.int 2))],
  .ret (.var 1)]⟩
def codeF (ip id : Nat) : Fn := ⟨6, [true, false], [
  .asg 2 (.call ip [.var 1]),
  .asg 3 (.call id [.var 0, .int 10]),
  .ite (.cmp .lt (.var 3) (.int 5)) [
    .ret (.bin .mod (.bi .int [.ix (.lst [.int 0, .int 1, .bin .sub (.var 2) (.int 1), .bin .fdiv (.var 2) (.int 2), .bin .sub (.bin .fdiv (.var 2) (.int 2)) (.int 1)]) (.var 3)]) (.var 2))] [],
  .asg 4 (.int 0),
  .for_ (.v 5) (.rng [.int 4]) [
    .asg 4 (.bin .add (.bin .mul (.var 4) (.int 256)) (.call id [.var 0, .int 256]))],
  .ret (.bin .mod (.bi .int [.var 4]) (.var 2))]⟩
def codeOfF : Fn := ⟨2, [false, false], [
  .ite (.cmp .lt (.var 0) (.int 0)) [
    .ret (.bin .add (.var 0) (.bin .shl (.int 1) (.var 1)))] [],
  .ret (.var 0)]⟩
def numberOfF : Fn := ⟨3, [false, false, false], [
  .ite (.and (.var 2) (.cmp .ge (.var 0) (.bin .shl (.int 1) (.bin .sub (.var 1) (.int 1))))) [
    .ret (.bin .sub (.var 0) (.bin .shl (.int 1) (.var 1)))] [],
  .ret (.var 0)]⟩
theorem isi_ii (i : Int) : D.isTy (.int i) .int = some true := rfl
theorem isi_ib (i : Int) : D.isTy (.int i) .bool = some false := rfl
theorem m2 (i : Int) : mulOk i 2 = true := mulOk_r (by decide)
theorem m256 (i : Int) : mulOk i 256 = true := mulOk_r (by decide)
theorem tr_bl (b : Bool) : truth (.bl b) = some b := rfl
theorem shl1 {w : Int} (h0 : 0 ≤ w) (h1 : w ≤ 1000000) : powOk 1 w = true := by
  unfold powOk; rw [decide_eq_true h0, decide_eq_true h1]; rfl
theorem upto_at {lo : Int} {n j : Nat} {x : D} (h : (upto lo n)[j]? = some x) : j < n ∧ x = .int (lo + j) := by
  have hj : j < n := by
    have := (List.getElem?_eq_some_iff.mp h).1
    rwa [upto_len] at this
  exact ⟨hj, by rw [upto_get n lo j hj] at h; exact (Option.some.inj h).symm⟩
theorem pw_pos (n : Nat) : (0 : Int) < 2 ^ n := Int.pow_pos (by decide)
theorem pw_succ (n : Nat) : (2 : Int) ^ (n + 1) = 2 ^ n * 2 := Int.pow_succ 2 n
theorem pw_le {a b : Nat} (h : a ≤ b) : (2 : Int) ^ a ≤ 2 ^ b := by
  have := Nat.pow_le_pow_right (n := 2) (by decide) h
  exact_mod_cast this
theorem inRg_sm {j : Int} (h0 : 0 ≤ j) (h1 : j ≤ 1000000) : inRg j = true := by
  have e : (2 : Int) ^ 62 = 4611686018427387904 := rfl
  unfold inRg; rw [e, decide_eq_true (show -4611686018427387904 ≤ j by omega), decide_eq_true (show j < 4611686018427387904 by omega)]; rfl
section
variable {P : Prg} {wn k i : Nat}
theorem isInt_ok (hf : P.fns[i]? = some isIntF) (a b : Int) : callF P wn (k + 1) i [.val (.int a), .val (.int b)] = .ok (.val (.bl (a == b))) [.un, .un] := by
  rw [callF_succ P wn k hf _ rfl]
  have e0 : ([.val (.int a), .val (.int b)] ++ List.replicate (isIntF.ns - isIntF.io.length) .un : Fr) = [.val (.int a), .val (.int b)] := rfl
  rw [e0]
  unfold isIntF
  simp only [bnd_ap, bX_ok, thenS_ap, tX_ok, seqS_nx, seqS_rt, seqS_bk, seqS_ct, ret_ap, opt_some, when_true, evB_nil, evB_cons, evS_asg, evS_asgT, evS_aug, evS_setix, evS_par, sets_nil, sets_cons, evS_ex, evS_ite, evS_for, evS_whl, evS_ret, evS_retN, evS_brk, evS_cont, evS_pass, selS_true, selS_false, selM_true, selM_false, slK_ap, itK_ap, tru_ap, fz_ap, var_v, var_t, var_o, var_i, int_v, int_o, str_v, str_o, bl_v, bl_o, bl_t, non_v, non_o, glo_v, glo_o, glo_i, tup_v, tup_o, tup_i, lst_v, lst_o, lst_i, bin_v, bin_o, bin_t, bin_i, negK_int, neg_v, neg_o, not_v, not_t, not_o, isB_bl, and_v, and_t, and_o, or_v, or_t, or_o, cmp_t, cmp_v, cmp_o, cmp2_t, cmp2_v, cmp2_o, ite_v, ite_o, ite_i, kix_v, kix_o, ix_v, ix_o, ix_t, ix_i, sl_v, sl_o, sl_i, rev_v, rev_o, rev_i, revK_t, revK_l, call_v, call_o, call_t, call_i, bi_v, bi_o, bi_t, bi_i, isi_v, isi_o, isi_t, app_v, ext_v, pop_v, pop_o, revm_v, rng_i, dic_v, dic_o, lrng_v, lrng_o, lrng_i, enu_i, lc_v, lc_o, lc_i, evs_nil, evs_cons, vals_nil, vals_cons, opds_nil, opds_cons, rdOs_nil, rdOs_cons, args_nil, args_t, args_f, rdO_at, rdO_sl, d_val, d_own, d_lk, opAt_ap, opAtS_val, opAtS_own, opAtS_lk, cap_ap, capS_some, retV_var, retS_own, retS_val, ownAt_ap, ownS_own, chg_ap, chgS_own, chgO_some, setAt_int, itO_at', itS_own, itS_val, itO_sl', part_nil, part_cons, partK_int, extK_lst, callM_ap, endC_ok, takes_nil, takes_at, takes_sl, backs_at, backs_sl, backs_nil, lent_t, lent_f, lent_n, endF_rt, endF_nx, onFr_nx, onFr_rt, unlk_nil, retV_int, retV_str, retV_bl, retV_non, retV_glo, retV_tup, retV_lst, retV_dic, retV_bin, retV_neg, retV_not, retV_and, retV_or, retV_cmp, retV_cmp2, retV_ite, retV_kix, retV_ix, retV_sl, retV_rev, retV_call, retV_bi, retV_isi, retV_mt, retV_pop, retV_lrng, retV_lc, retV_fs, sl0, sl1, sl2, sl3, sl4, sl5, sl6, sl7, sl8, sl9, sl10, sl11, set0, set1, set2, set3, set4, set5, set6, set7, set8, set9, set10, set11, add_i, sub_i, mul_i, fdiv_i, mod_i, pow_i, shl_i, shr_i, and_i, or_i, xor_i, eq_i, ne_i, lt_i, le_i, gt_i, ge_i, eq_s, ne_s, ix_l, ix_t', len_l, len_t, abs_i, int_i, max_i, min_i, list_l, list_t, list_s, tuple_l, omap_some, obind_some, isi_ii, isi_ib, Bool.not_false, tr_bl]
theorem power_ok (hf : P.fns[i]? = some powerF) {w : Int} (h0 : 0 ≤ w) (h1 : w < 1000) : callF P wn (k + 1) i [.val (.int w)] = .ok (.val (.int (2 ^ w.toNat))) [.un] := by
  rw [callF_succ P wn k hf _ rfl]
  have e0 : ([.val (.int w)] ++ List.replicate (powerF.ns - powerF.io.length) .un : Fr) = [.val (.int w), .un, .un] := rfl
  rw [e0]
  have step : ∀ (z : Int) (x : D) (y : Slot), turnO (asgT (.v 2)) (evB P (callF P wn k) wn [.asg 1 (.bin .mul (.var 1) (.int 2))]) x [.val (.int w), .val (.int z), y] = .nx [.val (.int w), .val (.int (z * 2)), .val x] := fun z x y => by
    simp only [turnO_ap, asgT_v, bnd_ap, bX_ok, thenS_ap, tX_ok, seqS_nx, seqS_rt, seqS_bk, seqS_ct, ret_ap, opt_some, when_true, evB_nil, evB_cons, evS_asg, evS_asgT, evS_aug, evS_setix, evS_par, sets_nil, sets_cons, evS_ex, evS_ite, evS_for, evS_whl, evS_ret, evS_retN, evS_brk, evS_cont, evS_pass, selS_true, selS_false, selM_true, selM_false, slK_ap, itK_ap, tru_ap, fz_ap, var_v, var_t, var_o, var_i, int_v, int_o, str_v, str_o, bl_v, bl_o, bl_t, non_v, non_o, glo_v, glo_o, glo_i, tup_v, tup_o, tup_i, lst_v, lst_o, lst_i, bin_v, bin_o, bin_t, bin_i, negK_int, neg_v, neg_o, not_v, not_t, not_o, isB_bl, and_v, and_t, and_o, or_v, or_t, or_o, cmp_t, cmp_v, cmp_o, cmp2_t, cmp2_v, cmp2_o, ite_v, ite_o, ite_i, kix_v, kix_o, ix_v, ix_o, ix_t, ix_i, sl_v, sl_o, sl_i, rev_v, rev_o, rev_i, revK_t, revK_l, call_v, call_o, call_t, call_i, bi_v, bi_o, bi_t, bi_i, isi_v, isi_o, isi_t, app_v, ext_v, pop_v, pop_o, revm_v, rng_i, dic_v, dic_o, lrng_v, lrng_o, lrng_i, enu_i, lc_v, lc_o, lc_i, evs_nil, evs_cons, vals_nil, vals_cons, opds_nil, opds_cons, rdOs_nil, rdOs_cons, args_nil, args_t, args_f, rdO_at, rdO_sl, d_val, d_own, d_lk, opAt_ap, opAtS_val, opAtS_own, opAtS_lk, cap_ap, capS_some, retV_var, retS_own, retS_val, ownAt_ap, ownS_own, chg_ap, chgS_own, chgO_some, setAt_int, itO_at', itS_own, itS_val, itO_sl', part_nil, part_cons, partK_int, extK_lst, callM_ap, endC_ok, takes_nil, takes_at, takes_sl, backs_at, backs_sl, backs_nil, lent_t, lent_f, lent_n, endF_rt, endF_nx, onFr_nx, onFr_rt, unlk_nil, retV_int, retV_str, retV_bl, retV_non, retV_glo, retV_tup, retV_lst, retV_dic, retV_bin, retV_neg, retV_not, retV_and, retV_or, retV_cmp, retV_cmp2, retV_ite, retV_kix, retV_ix, retV_sl, retV_rev, retV_call, retV_bi, retV_isi, retV_mt, retV_pop, retV_lrng, retV_lc, retV_fs, sl0, sl1, sl2, sl3, sl4, sl5, sl6, sl7, sl8, sl9, sl10, sl11, set0, set1, set2, set3, set4, set5, set6, set7, set8, set9, set10, set11, add_i, sub_i, mul_i, fdiv_i, mod_i, pow_i, shl_i, shr_i, and_i, or_i, xor_i, eq_i, ne_i, lt_i, le_i, gt_i, ge_i, eq_s, ne_s, ix_l, ix_t', len_l, len_t, abs_i, int_i, max_i, min_i, list_l, list_t, list_s, tuple_l, omap_some, obind_some, m2]
  obtain ⟨fr', ⟨y, rfl⟩, e⟩ := forL_ix (tgt := asgT (.v 2)) (body := evB P (callF P wn k) wn [.asg 1 (.bin .mul (.var 1) (.int 2))])
    (fun n fr => ∃ y : Slot, fr = [.val (.int w), .val (.int (2 ^ n)), y]) (upto 0 w.toNat) 0 [.val (.int w), .val (.int 1), .un] ⟨.un, by rw [Int.pow_zero]⟩ fun j x fr hx hi => by
      obtain ⟨y, rfl⟩ := hi
      exact ⟨[.val (.int w), .val (.int (2 ^ (0 + j) * 2)), .val x], ⟨.val x, by rw [pw_succ]⟩, .inl (step _ x y)⟩
  rw [Nat.zero_add, upto_len] at e
  unfold powerF
  simp only [bnd_ap, bX_ok, thenS_ap, tX_ok, seqS_nx, seqS_rt, seqS_bk, seqS_ct, ret_ap, opt_some, when_true, evB_nil, evB_cons, evS_asg, evS_asgT, evS_aug, evS_setix, evS_par, sets_nil, sets_cons, evS_ex, evS_ite, evS_for, evS_whl, evS_ret, evS_retN, evS_brk, evS_cont, evS_pass, selS_true, selS_false, selM_true, selM_false, slK_ap, itK_ap, tru_ap, fz_ap, var_v, var_t, var_o, var_i, int_v, int_o, str_v, str_o, bl_v, bl_o, bl_t, non_v, non_o, glo_v, glo_o, glo_i, tup_v, tup_o, tup_i, lst_v, lst_o, lst_i, bin_v, bin_o, bin_t, bin_i, negK_int, neg_v, neg_o, not_v, not_t, not_o, isB_bl, and_v, and_t, and_o, or_v, or_t, or_o, cmp_t, cmp_v, cmp_o, cmp2_t, cmp2_v, cmp2_o, ite_v, ite_o, ite_i, kix_v, kix_o, ix_v, ix_o, ix_t, ix_i, sl_v, sl_o, sl_i, rev_v, rev_o, rev_i, revK_t, revK_l, call_v, call_o, call_t, call_i, bi_v, bi_o, bi_t, bi_i, isi_v, isi_o, isi_t, app_v, ext_v, pop_v, pop_o, revm_v, rng_i, dic_v, dic_o, lrng_v, lrng_o, lrng_i, enu_i, lc_v, lc_o, lc_i, evs_nil, evs_cons, vals_nil, vals_cons, opds_nil, opds_cons, rdOs_nil, rdOs_cons, args_nil, args_t, args_f, rdO_at, rdO_sl, d_val, d_own, d_lk, opAt_ap, opAtS_val, opAtS_own, opAtS_lk, cap_ap, capS_some, retV_var, retS_own, retS_val, ownAt_ap, ownS_own, chg_ap, chgS_own, chgO_some, setAt_int, itO_at', itS_own, itS_val, itO_sl', part_nil, part_cons, partK_int, extK_lst, callM_ap, endC_ok, takes_nil, takes_at, takes_sl, backs_at, backs_sl, backs_nil, lent_t, lent_f, lent_n, endF_rt, endF_nx, onFr_nx, onFr_rt, unlk_nil, retV_int, retV_str, retV_bl, retV_non, retV_glo, retV_tup, retV_lst, retV_dic, retV_bin, retV_neg, retV_not, retV_and, retV_or, retV_cmp, retV_cmp2, retV_ite, retV_kix, retV_ix, retV_sl, retV_rev, retV_call, retV_bi, retV_isi, retV_mt, retV_pop, retV_lrng, retV_lc, retV_fs, sl0, sl1, sl2, sl3, sl4, sl5, sl6, sl7, sl8, sl9, sl10, sl11, set0, set1, set2, set3, set4, set5, set6, set7, set8, set9, set10, set11, add_i, sub_i, mul_i, fdiv_i, mod_i, pow_i, shl_i, shr_i, and_i, or_i, xor_i, eq_i, ne_i, lt_i, le_i, gt_i, ge_i, eq_s, ne_s, ix_l, ix_t', len_l, len_t, abs_i, int_i, max_i, min_i, list_l, list_t, list_s, tuple_l, omap_some, obind_some, rng1 (inRg_sm (j := w) h0 (by omega)), forK_ap, e]
/-- a code of w bits -/
theorem code_ok {ip id : Nat} (hf : P.fns[i]? = some (codeF ip id)) (hp : P.fns[ip]? = some powerF) (hd : P.fns[id]? = some drawF) {xs : List D} (ht : Tp xs) {w : Int} (h0 : 1 ≤ w) (h1 : w < 200) :
    ∃ (r : Int) (ys : List D), callF P wn (k + 2) i [.own xs, .val (.int w)] = .ok (.val (.int r)) [.own ys, .un] ∧ Tp ys ∧ 0 ≤ r ∧ r < 2 ^ w.toNat := by
  rw [callF_succ P wn (k + 1) hf _ rfl]
  have e0 : ([.own xs, .val (.int w)] ++ List.replicate ((codeF ip id).ns - (codeF ip id).io.length) .un : Fr) = [.own xs, .val (.int w), .un, .un, .un, .un] := rfl
  rw [e0]
  have ep := power_ok (P := P) (wn := wn) (k := k) hp (w := w) (by omega) (by omega)
  obtain ⟨r, ys, ed, ty, r0, r1, _⟩ := draw_ok (P := P) (wn := wn) (k := k) hd ht 10 (by decide)
  have r1 := r1 (by decide)
  have iop : P.io ip = [false] := by unfold Prg.io; rw [hp]; rfl
  have iod : P.io id = [true, false] := by unfold Prg.io; rw [hd]; rfl
  have pp := pw_pos w.toNat
  generalize hpw : (2 : Int) ^ w.toNat = pw at *
  have hw : pw ≤ 2 ^ 200 := by rw [← hpw]; exact pw_le (by omega)
  have md : ∀ z : Int, 0 ≤ z % pw ∧ z % pw < pw := fun z => ⟨Int.emod_nonneg _ (by omega), Int.emod_lt_of_pos _ pp⟩
  have d1 : decide (0 < pw) = true := decide_eq_true pp
  have d2 : decide ((0 : Int) < 2) = true := rfl
  have d3 : decide ((2 : Int) < 2 ^ 256) = true := by decide
  unfold codeF
  by_cases h5 : r < 5
  · have e5 : decide (r < 5) = true := decide_eq_true h5
    have key : ∃ z : Int, atI [D.int 0, .int 1, .int (pw - 1), .int (pw / 2), .int (pw / 2 - 1)] r = some (.int z) := by
      have : r = 0 ∨ r = 1 ∨ r = 2 ∨ r = 3 ∨ r = 4 := by omega
      rcases this with rfl | rfl | rfl | rfl | rfl <;> exact ⟨_, rfl⟩
    obtain ⟨z, ez⟩ := key
    have hs : ([D.int 0, .int 1, .int (pw - 1), .int (pw / 2), .int (pw / 2 - 1)] : List D).length ≤ sizeLine := by rw [sizeLine_eq]; show 5 ≤ _; decide
    refine ⟨z % pw, ys, ?_, ty, md z⟩
    simp only [bnd_ap, bX_ok, thenS_ap, tX_ok, seqS_nx, seqS_rt, seqS_bk, seqS_ct, ret_ap, opt_some, when_true, evB_nil, evB_cons, evS_asg, evS_asgT, evS_aug, evS_setix, evS_par, sets_nil, sets_cons, evS_ex, evS_ite, evS_for, evS_whl, evS_ret, evS_retN, evS_brk, evS_cont, evS_pass, selS_true, selS_false, selM_true, selM_false, slK_ap, itK_ap, tru_ap, fz_ap, var_v, var_t, var_o, var_i, int_v, int_o, str_v, str_o, bl_v, bl_o, bl_t, non_v, non_o, glo_v, glo_o, glo_i, tup_v, tup_o, tup_i, lst_v, lst_o, lst_i, bin_v, bin_o, bin_t, bin_i, negK_int, neg_v, neg_o, not_v, not_t, not_o, isB_bl, and_v, and_t, and_o, or_v, or_t, or_o, cmp_t, cmp_v, cmp_o, cmp2_t, cmp2_v, cmp2_o, ite_v, ite_o, ite_i, kix_v, kix_o, ix_v, ix_o, ix_t, ix_i, sl_v, sl_o, sl_i, rev_v, rev_o, rev_i, revK_t, revK_l, call_v, call_o, call_t, call_i, bi_v, bi_o, bi_t, bi_i, isi_v, isi_o, isi_t, app_v, ext_v, pop_v, pop_o, revm_v, rng_i, dic_v, dic_o, lrng_v, lrng_o, lrng_i, enu_i, lc_v, lc_o, lc_i, evs_nil, evs_cons, vals_nil, vals_cons, opds_nil, opds_cons, rdOs_nil, rdOs_cons, args_nil, args_t, args_f, rdO_at, rdO_sl, d_val, d_own, d_lk, opAt_ap, opAtS_val, opAtS_own, opAtS_lk, cap_ap, capS_some, retV_var, retS_own, retS_val, ownAt_ap, ownS_own, chg_ap, chgS_own, chgO_some, setAt_int, itO_at', itS_own, itS_val, itO_sl', part_nil, part_cons, partK_int, extK_lst, callM_ap, endC_ok, takes_nil, takes_at, takes_sl, backs_at, backs_sl, backs_nil, lent_t, lent_f, lent_n, endF_rt, endF_nx, onFr_nx, onFr_rt, unlk_nil, retV_int, retV_str, retV_bl, retV_non, retV_glo, retV_tup, retV_lst, retV_dic, retV_bin, retV_neg, retV_not, retV_and, retV_or, retV_cmp, retV_cmp2, retV_ite, retV_kix, retV_ix, retV_sl, retV_rev, retV_call, retV_bi, retV_isi, retV_mt, retV_pop, retV_lrng, retV_lc, retV_fs, sl0, sl1, sl2, sl3, sl4, sl5, sl6, sl7, sl8, sl9, sl10, sl11, set0, set1, set2, set3, set4, set5, set6, set7, set8, set9, set10, set11, add_i, sub_i, mul_i, fdiv_i, mod_i, pow_i, shl_i, shr_i, and_i, or_i, xor_i, eq_i, ne_i, lt_i, le_i, gt_i, ge_i, eq_s, ne_s, ix_l, ix_t', len_l, len_t, abs_i, int_i, max_i, min_i, list_l, list_t, list_s, tuple_l, omap_some, obind_some, iop, iod, ep, ed, e5, if_pos hs, ez, d1, d2, d3, Bool.and_self]
  · have e5 : decide (r < 5) = false := decide_eq_false h5
    obtain ⟨fr', ⟨c, zs, y, tz, rfl⟩, e⟩ := forL_inv (tgt := asgT (.v 5)) (body := evB P (callF P wn (k + 1)) wn [.asg 4 (.bin .add (.bin .mul (.var 4) (.int 256)) (.call id [.var 0, .int 256]))])
      (fun fr => ∃ (c : Int) (zs : List D) (y : Slot), Tp zs ∧ fr = [.own zs, .val (.int w), .val (.int pw), .val (.int r), .val (.int c), y]) (upto 0 4) [.own ys, .val (.int w), .val (.int pw), .val (.int r), .val (.int 0), .un] ⟨0, ys, _, ty, rfl⟩ fun x fr hx hi => by
        obtain ⟨c, zs, y, tz, rfl⟩ := hi
        obtain ⟨r', zs', ed', tz', _⟩ := draw_ok (P := P) (wn := wn) (k := k) hd tz 256 (by decide)
        refine ⟨_, ⟨c * 256 + r', zs', .val x, tz', rfl⟩, .inl ?_⟩
        simp only [turnO_ap, asgT_v, bnd_ap, bX_ok, thenS_ap, tX_ok, seqS_nx, seqS_rt, seqS_bk, seqS_ct, ret_ap, opt_some, when_true, evB_nil, evB_cons, evS_asg, evS_asgT, evS_aug, evS_setix, evS_par, sets_nil, sets_cons, evS_ex, evS_ite, evS_for, evS_whl, evS_ret, evS_retN, evS_brk, evS_cont, evS_pass, selS_true, selS_false, selM_true, selM_false, slK_ap, itK_ap, tru_ap, fz_ap, var_v, var_t, var_o, var_i, int_v, int_o, str_v, str_o, bl_v, bl_o, bl_t, non_v, non_o, glo_v, glo_o, glo_i, tup_v, tup_o, tup_i, lst_v, lst_o, lst_i, bin_v, bin_o, bin_t, bin_i, negK_int, neg_v, neg_o, not_v, not_t, not_o, isB_bl, and_v, and_t, and_o, or_v, or_t, or_o, cmp_t, cmp_v, cmp_o, cmp2_t, cmp2_v, cmp2_o, ite_v, ite_o, ite_i, kix_v, kix_o, ix_v, ix_o, ix_t, ix_i, sl_v, sl_o, sl_i, rev_v, rev_o, rev_i, revK_t, revK_l, call_v, call_o, call_t, call_i, bi_v, bi_o, bi_t, bi_i, isi_v, isi_o, isi_t, app_v, ext_v, pop_v, pop_o, revm_v, rng_i, dic_v, dic_o, lrng_v, lrng_o, lrng_i, enu_i, lc_v, lc_o, lc_i, evs_nil, evs_cons, vals_nil, vals_cons, opds_nil, opds_cons, rdOs_nil, rdOs_cons, args_nil, args_t, args_f, rdO_at, rdO_sl, d_val, d_own, d_lk, opAt_ap, opAtS_val, opAtS_own, opAtS_lk, cap_ap, capS_some, retV_var, retS_own, retS_val, ownAt_ap, ownS_own, chg_ap, chgS_own, chgO_some, setAt_int, itO_at', itS_own, itS_val, itO_sl', part_nil, part_cons, partK_int, extK_lst, callM_ap, endC_ok, takes_nil, takes_at, takes_sl, backs_at, backs_sl, backs_nil, lent_t, lent_f, lent_n, endF_rt, endF_nx, onFr_nx, onFr_rt, unlk_nil, retV_int, retV_str, retV_bl, retV_non, retV_glo, retV_tup, retV_lst, retV_dic, retV_bin, retV_neg, retV_not, retV_and, retV_or, retV_cmp, retV_cmp2, retV_ite, retV_kix, retV_ix, retV_sl, retV_rev, retV_call, retV_bi, retV_isi, retV_mt, retV_pop, retV_lrng, retV_lc, retV_fs, sl0, sl1, sl2, sl3, sl4, sl5, sl6, sl7, sl8, sl9, sl10, sl11, set0, set1, set2, set3, set4, set5, set6, set7, set8, set9, set10, set11, add_i, sub_i, mul_i, fdiv_i, mod_i, pow_i, shl_i, shr_i, and_i, or_i, xor_i, eq_i, ne_i, lt_i, le_i, gt_i, ge_i, eq_s, ne_s, ix_l, ix_t', len_l, len_t, abs_i, int_i, max_i, min_i, list_l, list_t, list_s, tuple_l, omap_some, obind_some, iod, ed', m256]
    have r4 : rngI [.int 4] = some (upto 0 4) := rfl
    refine ⟨c % pw, zs, ?_, tz, md c⟩
    simp only [bnd_ap, bX_ok, thenS_ap, tX_ok, seqS_nx, seqS_rt, seqS_bk, seqS_ct, ret_ap, opt_some, when_true, evB_nil, evB_cons, evS_asg, evS_asgT, evS_aug, evS_setix, evS_par, sets_nil, sets_cons, evS_ex, evS_ite, evS_for, evS_whl, evS_ret, evS_retN, evS_brk, evS_cont, evS_pass, selS_true, selS_false, selM_true, selM_false, slK_ap, itK_ap, tru_ap, fz_ap, var_v, var_t, var_o, var_i, int_v, int_o, str_v, str_o, bl_v, bl_o, bl_t, non_v, non_o, glo_v, glo_o, glo_i, tup_v, tup_o, tup_i, lst_v, lst_o, lst_i, bin_v, bin_o, bin_t, bin_i, negK_int, neg_v, neg_o, not_v, not_t, not_o, isB_bl, and_v, and_t, and_o, or_v, or_t, or_o, cmp_t, cmp_v, cmp_o, cmp2_t, cmp2_v, cmp2_o, ite_v, ite_o, ite_i, kix_v, kix_o, ix_v, ix_o, ix_t, ix_i, sl_v, sl_o, sl_i, rev_v, rev_o, rev_i, revK_t, revK_l, call_v, call_o, call_t, call_i, bi_v, bi_o, bi_t, bi_i, isi_v, isi_o, isi_t, app_v, ext_v, pop_v, pop_o, revm_v, rng_i, dic_v, dic_o, lrng_v, lrng_o, lrng_i, enu_i, lc_v, lc_o, lc_i, evs_nil, evs_cons, vals_nil, vals_cons, opds_nil, opds_cons, rdOs_nil, rdOs_cons, args_nil, args_t, args_f, rdO_at, rdO_sl, d_val, d_own, d_lk, opAt_ap, opAtS_val, opAtS_own, opAtS_lk, cap_ap, capS_some, retV_var, retS_own, retS_val, ownAt_ap, ownS_own, chg_ap, chgS_own, chgO_some, setAt_int, itO_at', itS_own, itS_val, itO_sl', part_nil, part_cons, partK_int, extK_lst, callM_ap, endC_ok, takes_nil, takes_at, takes_sl, backs_at, backs_sl, backs_nil, lent_t, lent_f, lent_n, endF_rt, endF_nx, onFr_nx, onFr_rt, unlk_nil, retV_int, retV_str, retV_bl, retV_non, retV_glo, retV_tup, retV_lst, retV_dic, retV_bin, retV_neg, retV_not, retV_and, retV_or, retV_cmp, retV_cmp2, retV_ite, retV_kix, retV_ix, retV_sl, retV_rev, retV_call, retV_bi, retV_isi, retV_mt, retV_pop, retV_lrng, retV_lc, retV_fs, sl0, sl1, sl2, sl3, sl4, sl5, sl6, sl7, sl8, sl9, sl10, sl11, set0, set1, set2, set3, set4, set5, set6, set7, set8, set9, set10, set11, add_i, sub_i, mul_i, fdiv_i, mod_i, pow_i, shl_i, shr_i, and_i, or_i, xor_i, eq_i, ne_i, lt_i, le_i, gt_i, ge_i, eq_s, ne_s, ix_l, ix_t', len_l, len_t, abs_i, int_i, max_i, min_i, list_l, list_t, list_s, tuple_l, omap_some, obind_some, iop, iod, ep, ed, e5, r4, forK_ap, e, d1]
theorem codeOf_ok (hf : P.fns[i]? = some codeOfF) (n : Int) {w : Int} (h0 : 0 ≤ w) (h1 : w ≤ 1000) : callF P wn (k + 1) i [.val (.int n), .val (.int w)] = .ok (.val (.int (if n < 0 then n + 2 ^ w.toNat else n))) [.un, .un] := by
  rw [callF_succ P wn k hf _ rfl]
  have e0 : ([.val (.int n), .val (.int w)] ++ List.replicate (codeOfF.ns - codeOfF.io.length) .un : Fr) = [.val (.int n), .val (.int w)] := rfl
  rw [e0]
  unfold codeOfF
  by_cases h : n < 0
  · simp only [bnd_ap, bX_ok, thenS_ap, tX_ok, seqS_nx, seqS_rt, seqS_bk, seqS_ct, ret_ap, opt_some, when_true, evB_nil, evB_cons, evS_asg, evS_asgT, evS_aug, evS_setix, evS_par, sets_nil, sets_cons, evS_ex, evS_ite, evS_for, evS_whl, evS_ret, evS_retN, evS_brk, evS_cont, evS_pass, selS_true, selS_false, selM_true, selM_false, slK_ap, itK_ap, tru_ap, fz_ap, var_v, var_t, var_o, var_i, int_v, int_o, str_v, str_o, bl_v, bl_o, bl_t, non_v, non_o, glo_v, glo_o, glo_i, tup_v, tup_o, tup_i, lst_v, lst_o, lst_i, bin_v, bin_o, bin_t, bin_i, negK_int, neg_v, neg_o, not_v, not_t, not_o, isB_bl, and_v, and_t, and_o, or_v, or_t, or_o, cmp_t, cmp_v, cmp_o, cmp2_t, cmp2_v, cmp2_o, ite_v, ite_o, ite_i, kix_v, kix_o, ix_v, ix_o, ix_t, ix_i, sl_v, sl_o, sl_i, rev_v, rev_o, rev_i, revK_t, revK_l, call_v, call_o, call_t, call_i, bi_v, bi_o, bi_t, bi_i, isi_v, isi_o, isi_t, app_v, ext_v, pop_v, pop_o, revm_v, rng_i, dic_v, dic_o, lrng_v, lrng_o, lrng_i, enu_i, lc_v, lc_o, lc_i, evs_nil, evs_cons, vals_nil, vals_cons, opds_nil, opds_cons, rdOs_nil, rdOs_cons, args_nil, args_t, args_f, rdO_at, rdO_sl, d_val, d_own, d_lk, opAt_ap, opAtS_val, opAtS_own, opAtS_lk, cap_ap, capS_some, retV_var, retS_own, retS_val, ownAt_ap, ownS_own, chg_ap, chgS_own, chgO_some, setAt_int, itO_at', itS_own, itS_val, itO_sl', part_nil, part_cons, partK_int, extK_lst, callM_ap, endC_ok, takes_nil, takes_at, takes_sl, backs_at, backs_sl, backs_nil, lent_t, lent_f, lent_n, endF_rt, endF_nx, onFr_nx, onFr_rt, unlk_nil, retV_int, retV_str, retV_bl, retV_non, retV_glo, retV_tup, retV_lst, retV_dic, retV_bin, retV_neg, retV_not, retV_and, retV_or, retV_cmp, retV_cmp2, retV_ite, retV_kix, retV_ix, retV_sl, retV_rev, retV_call, retV_bi, retV_isi, retV_mt, retV_pop, retV_lrng, retV_lc, retV_fs, sl0, sl1, sl2, sl3, sl4, sl5, sl6, sl7, sl8, sl9, sl10, sl11, set0, set1, set2, set3, set4, set5, set6, set7, set8, set9, set10, set11, add_i, sub_i, mul_i, fdiv_i, mod_i, pow_i, shl_i, shr_i, and_i, or_i, xor_i, eq_i, ne_i, lt_i, le_i, gt_i, ge_i, eq_s, ne_s, ix_l, ix_t', len_l, len_t, abs_i, int_i, max_i, min_i, list_l, list_t, list_s, tuple_l, omap_some, obind_some, decide_eq_true h, shl1 h0 (Int.le_trans h1 (by decide)), Int.one_mul, if_pos h]
  · simp only [bnd_ap, bX_ok, thenS_ap, tX_ok, seqS_nx, seqS_rt, seqS_bk, seqS_ct, ret_ap, opt_some, when_true, evB_nil, evB_cons, evS_asg, evS_asgT, evS_aug, evS_setix, evS_par, sets_nil, sets_cons, evS_ex, evS_ite, evS_for, evS_whl, evS_ret, evS_retN, evS_brk, evS_cont, evS_pass, selS_true, selS_false, selM_true, selM_false, slK_ap, itK_ap, tru_ap, fz_ap, var_v, var_t, var_o, var_i, int_v, int_o, str_v, str_o, bl_v, bl_o, bl_t, non_v, non_o, glo_v, glo_o, glo_i, tup_v, tup_o, tup_i, lst_v, lst_o, lst_i, bin_v, bin_o, bin_t, bin_i, negK_int, neg_v, neg_o, not_v, not_t, not_o, isB_bl, and_v, and_t, and_o, or_v, or_t, or_o, cmp_t, cmp_v, cmp_o, cmp2_t, cmp2_v, cmp2_o, ite_v, ite_o, ite_i, kix_v, kix_o, ix_v, ix_o, ix_t, ix_i, sl_v, sl_o, sl_i, rev_v, rev_o, rev_i, revK_t, revK_l, call_v, call_o, call_t, call_i, bi_v, bi_o, bi_t, bi_i, isi_v, isi_o, isi_t, app_v, ext_v, pop_v, pop_o, revm_v, rng_i, dic_v, dic_o, lrng_v, lrng_o, lrng_i, enu_i, lc_v, lc_o, lc_i, evs_nil, evs_cons, vals_nil, vals_cons, opds_nil, opds_cons, rdOs_nil, rdOs_cons, args_nil, args_t, args_f, rdO_at, rdO_sl, d_val, d_own, d_lk, opAt_ap, opAtS_val, opAtS_own, opAtS_lk, cap_ap, capS_some, retV_var, retS_own, retS_val, ownAt_ap, ownS_own, chg_ap, chgS_own, chgO_some, setAt_int, itO_at', itS_own, itS_val, itO_sl', part_nil, part_cons, partK_int, extK_lst, callM_ap, endC_ok, takes_nil, takes_at, takes_sl, backs_at, backs_sl, backs_nil, lent_t, lent_f, lent_n, endF_rt, endF_nx, onFr_nx, onFr_rt, unlk_nil, retV_int, retV_str, retV_bl, retV_non, retV_glo, retV_tup, retV_lst, retV_dic, retV_bin, retV_neg, retV_not, retV_and, retV_or, retV_cmp, retV_cmp2, retV_ite, retV_kix, retV_ix, retV_sl, retV_rev, retV_call, retV_bi, retV_isi, retV_mt, retV_pop, retV_lrng, retV_lc, retV_fs, sl0, sl1, sl2, sl3, sl4, sl5, sl6, sl7, sl8, sl9, sl10, sl11, set0, set1, set2, set3, set4, set5, set6, set7, set8, set9, set10, set11, add_i, sub_i, mul_i, fdiv_i, mod_i, pow_i, shl_i, shr_i, and_i, or_i, xor_i, eq_i, ne_i, lt_i, le_i, gt_i, ge_i, eq_s, ne_s, ix_l, ix_t', len_l, len_t, abs_i, int_i, max_i, min_i, list_l, list_t, list_s, tuple_l, omap_some, obind_some, decide_eq_false h, if_neg h]
theorem numberOf_ok (hf : P.fns[i]? = some numberOfF) (c : Int) {w : Int} (h0 : 1 ≤ w) (h1 : w ≤ 1000) (s : Bool) : callF P wn (k + 1) i [.val (.int c), .val (.int w), .val (.bl s)] = .ok (.val (.int (if s = true ∧ 2 ^ (w - 1).toNat ≤ c then c - 2 ^ w.toNat else c))) [.un, .un, .un] := by
  rw [callF_succ P wn k hf _ rfl]
  have e0 : ([.val (.int c), .val (.int w), .val (.bl s)] ++ List.replicate (numberOfF.ns - numberOfF.io.length) .un : Fr) = [.val (.int c), .val (.int w), .val (.bl s)] := rfl
  rw [e0]
  have s1 := shl1 (w := w) (by omega) (by omega)
  have s2 := shl1 (w := w - 1) (by omega) (by omega)
  unfold numberOfF
  cases s with
  | false => simp only [bnd_ap, bX_ok, thenS_ap, tX_ok, seqS_nx, seqS_rt, seqS_bk, seqS_ct, ret_ap, opt_some, when_true, evB_nil, evB_cons, evS_asg, evS_asgT, evS_aug, evS_setix, evS_par, sets_nil, sets_cons, evS_ex, evS_ite, evS_for, evS_whl, evS_ret, evS_retN, evS_brk, evS_cont, evS_pass, selS_true, selS_false, selM_true, selM_false, slK_ap, itK_ap, tru_ap, fz_ap, var_v, var_t, var_o, var_i, int_v, int_o, str_v, str_o, bl_v, bl_o, bl_t, non_v, non_o, glo_v, glo_o, glo_i, tup_v, tup_o, tup_i, lst_v, lst_o, lst_i, bin_v, bin_o, bin_t, bin_i, negK_int, neg_v, neg_o, not_v, not_t, not_o, isB_bl, and_v, and_t, and_o, or_v, or_t, or_o, cmp_t, cmp_v, cmp_o, cmp2_t, cmp2_v, cmp2_o, ite_v, ite_o, ite_i, kix_v, kix_o, ix_v, ix_o, ix_t, ix_i, sl_v, sl_o, sl_i, rev_v, rev_o, rev_i, revK_t, revK_l, call_v, call_o, call_t, call_i, bi_v, bi_o, bi_t, bi_i, isi_v, isi_o, isi_t, app_v, ext_v, pop_v, pop_o, revm_v, rng_i, dic_v, dic_o, lrng_v, lrng_o, lrng_i, enu_i, lc_v, lc_o, lc_i, evs_nil, evs_cons, vals_nil, vals_cons, opds_nil, opds_cons, rdOs_nil, rdOs_cons, args_nil, args_t, args_f, rdO_at, rdO_sl, d_val, d_own, d_lk, opAt_ap, opAtS_val, opAtS_own, opAtS_lk, cap_ap, capS_some, retV_var, retS_own, retS_val, ownAt_ap, ownS_own, chg_ap, chgS_own, chgO_some, setAt_int, itO_at', itS_own, itS_val, itO_sl', part_nil, part_cons, partK_int, extK_lst, callM_ap, endC_ok, takes_nil, takes_at, takes_sl, backs_at, backs_sl, backs_nil, lent_t, lent_f, lent_n, endF_rt, endF_nx, onFr_nx, onFr_rt, unlk_nil, retV_int, retV_str, retV_bl, retV_non, retV_glo, retV_tup, retV_lst, retV_dic, retV_bin, retV_neg, retV_not, retV_and, retV_or, retV_cmp, retV_cmp2, retV_ite, retV_kix, retV_ix, retV_sl, retV_rev, retV_call, retV_bi, retV_isi, retV_mt, retV_pop, retV_lrng, retV_lc, retV_fs, sl0, sl1, sl2, sl3, sl4, sl5, sl6, sl7, sl8, sl9, sl10, sl11, set0, set1, set2, set3, set4, set5, set6, set7, set8, set9, set10, set11, add_i, sub_i, mul_i, fdiv_i, mod_i, pow_i, shl_i, shr_i, and_i, or_i, xor_i, eq_i, ne_i, lt_i, le_i, gt_i, ge_i, eq_s, ne_s, ix_l, ix_t', len_l, len_t, abs_i, int_i, max_i, min_i, list_l, list_t, list_s, tuple_l, omap_some, obind_some, tr_bl, Bool.false_eq_true, false_and, if_false]
  | true =>
    by_cases h : (2 : Int) ^ (w - 1).toNat ≤ c
    · simp only [bnd_ap, bX_ok, thenS_ap, tX_ok, seqS_nx, seqS_rt, seqS_bk, seqS_ct, ret_ap, opt_some, when_true, evB_nil, evB_cons, evS_asg, evS_asgT, evS_aug, evS_setix, evS_par, sets_nil, sets_cons, evS_ex, evS_ite, evS_for, evS_whl, evS_ret, evS_retN, evS_brk, evS_cont, evS_pass, selS_true, selS_false, selM_true, selM_false, slK_ap, itK_ap, tru_ap, fz_ap, var_v, var_t, var_o, var_i, int_v, int_o, str_v, str_o, bl_v, bl_o, bl_t, non_v, non_o, glo_v, glo_o, glo_i, tup_v, tup_o, tup_i, lst_v, lst_o, lst_i, bin_v, bin_o, bin_t, bin_i, negK_int, neg_v, neg_o, not_v, not_t, not_o, isB_bl, and_v, and_t, and_o, or_v, or_t, or_o, cmp_t, cmp_v, cmp_o, cmp2_t, cmp2_v, cmp2_o, ite_v, ite_o, ite_i, kix_v, kix_o, ix_v, ix_o, ix_t, ix_i, sl_v, sl_o, sl_i, rev_v, rev_o, rev_i, revK_t, revK_l, call_v, call_o, call_t, call_i, bi_v, bi_o, bi_t, bi_i, isi_v, isi_o, isi_t, app_v, ext_v, pop_v, pop_o, revm_v, rng_i, dic_v, dic_o, lrng_v, lrng_o, lrng_i, enu_i, lc_v, lc_o, lc_i, evs_nil, evs_cons, vals_nil, vals_cons, opds_nil, opds_cons, rdOs_nil, rdOs_cons, args_nil, args_t, args_f, rdO_at, rdO_sl, d_val, d_own, d_lk, opAt_ap, opAtS_val, opAtS_own, opAtS_lk, cap_ap, capS_some, retV_var, retS_own, retS_val, ownAt_ap, ownS_own, chg_ap, chgS_own, chgO_some, setAt_int, itO_at', itS_own, itS_val, itO_sl', part_nil, part_cons, partK_int, extK_lst, callM_ap, endC_ok, takes_nil, takes_at, takes_sl, backs_at, backs_sl, backs_nil, lent_t, lent_f, lent_n, endF_rt, endF_nx, onFr_nx, onFr_rt, unlk_nil, retV_int, retV_str, retV_bl, retV_non, retV_glo, retV_tup, retV_lst, retV_dic, retV_bin, retV_neg, retV_not, retV_and, retV_or, retV_cmp, retV_cmp2, retV_ite, retV_kix, retV_ix, retV_sl, retV_rev, retV_call, retV_bi, retV_isi, retV_mt, retV_pop, retV_lrng, retV_lc, retV_fs, sl0, sl1, sl2, sl3, sl4, sl5, sl6, sl7, sl8, sl9, sl10, sl11, set0, set1, set2, set3, set4, set5, set6, set7, set8, set9, set10, set11, add_i, sub_i, mul_i, fdiv_i, mod_i, pow_i, shl_i, shr_i, and_i, or_i, xor_i, eq_i, ne_i, lt_i, le_i, gt_i, ge_i, eq_s, ne_s, ix_l, ix_t', len_l, len_t, abs_i, int_i, max_i, min_i, list_l, list_t, list_s, tuple_l, omap_some, obind_some, tr_bl, s1, s2, Int.one_mul, decide_eq_true h, true_and, h, if_true, decide_true]
    · simp only [bnd_ap, bX_ok, thenS_ap, tX_ok, seqS_nx, seqS_rt, seqS_bk, seqS_ct, ret_ap, opt_some, when_true, evB_nil, evB_cons, evS_asg, evS_asgT, evS_aug, evS_setix, evS_par, sets_nil, sets_cons, evS_ex, evS_ite, evS_for, evS_whl, evS_ret, evS_retN, evS_brk, evS_cont, evS_pass, selS_true, selS_false, selM_true, selM_false, slK_ap, itK_ap, tru_ap, fz_ap, var_v, var_t, var_o, var_i, int_v, int_o, str_v, str_o, bl_v, bl_o, bl_t, non_v, non_o, glo_v, glo_o, glo_i, tup_v, tup_o, tup_i, lst_v, lst_o, lst_i, bin_v, bin_o, bin_t, bin_i, negK_int, neg_v, neg_o, not_v, not_t, not_o, isB_bl, and_v, and_t, and_o, or_v, or_t, or_o, cmp_t, cmp_v, cmp_o, cmp2_t, cmp2_v, cmp2_o, ite_v, ite_o, ite_i, kix_v, kix_o, ix_v, ix_o, ix_t, ix_i, sl_v, sl_o, sl_i, rev_v, rev_o, rev_i, revK_t, revK_l, call_v, call_o, call_t, call_i, bi_v, bi_o, bi_t, bi_i, isi_v, isi_o, isi_t, app_v, ext_v, pop_v, pop_o, revm_v, rng_i, dic_v, dic_o, lrng_v, lrng_o, lrng_i, enu_i, lc_v, lc_o, lc_i, evs_nil, evs_cons, vals_nil, vals_cons, opds_nil, opds_cons, rdOs_nil, rdOs_cons, args_nil, args_t, args_f, rdO_at, rdO_sl, d_val, d_own, d_lk, opAt_ap, opAtS_val, opAtS_own, opAtS_lk, cap_ap, capS_some, retV_var, retS_own, retS_val, ownAt_ap, ownS_own, chg_ap, chgS_own, chgO_some, setAt_int, itO_at', itS_own, itS_val, itO_sl', part_nil, part_cons, partK_int, extK_lst, callM_ap, endC_ok, takes_nil, takes_at, takes_sl, backs_at, backs_sl, backs_nil, lent_t, lent_f, lent_n, endF_rt, endF_nx, onFr_nx, onFr_rt, unlk_nil, retV_int, retV_str, retV_bl, retV_non, retV_glo, retV_tup, retV_lst, retV_dic, retV_bin, retV_neg, retV_not, retV_and, retV_or, retV_cmp, retV_cmp2, retV_ite, retV_kix, retV_ix, retV_sl, retV_rev, retV_call, retV_bi, retV_isi, retV_mt, retV_pop, retV_lrng, retV_lc, retV_fs, sl0, sl1, sl2, sl3, sl4, sl5, sl6, sl7, sl8, sl9, sl10, sl11, set0, set1, set2, set3, set4, set5, set6, set7, set8, set9, set10, set11, add_i, sub_i, mul_i, fdiv_i, mod_i, pow_i, shl_i, shr_i, and_i, or_i, xor_i, eq_i, ne_i, lt_i, le_i, gt_i, ge_i, eq_s, ne_s, ix_l, ix_t', len_l, len_t, abs_i, int_i, max_i, min_i, list_l, list_t, list_s, tuple_l, omap_some, obind_some, tr_bl, s1, s2, Int.one_mul, decide_eq_false h, true_and, h, if_false, decide_false]
end
section
variable {P : Prg} {wn kk i : Nat}
theorem tapeA (hf : P.fns[i]? = some tapeF) (hk : 0 < kk) (ns : List Int) (hn : ns.length ≤ 63) : ∃ xs, callF P wn kk i [.val (.scr ns)] = .ok (.own xs) [.un] ∧ Tp xs := by
  obtain ⟨k, rfl⟩ : ∃ k, kk = k + 1 := ⟨kk - 1, by omega⟩
  exact tape_ok hf ns hn
theorem drawA (hf : P.fns[i]? = some drawF) (hk : 0 < kk) {xs : List D} (h : Tp xs) (m : Int) (hm : m < 2 ^ 64) :
    ∃ (r : Int) (ys : List D), callF P wn kk i [.own xs, .val (.int m)] = .ok (.val (.int r)) [.own ys, .un] ∧ Tp ys ∧ 0 ≤ r ∧ (1 ≤ m → r < m) ∧ (m ≤ 1 → r = 0) := by
  obtain ⟨k, rfl⟩ : ∃ k, kk = k + 1 := ⟨kk - 1, by omega⟩
  exact draw_ok hf h m hm
theorem isIntA (hf : P.fns[i]? = some isIntF) (hk : 0 < kk) (a b : Int) : callF P wn kk i [.val (.int a), .val (.int b)] = .ok (.val (.bl (a == b))) [.un, .un] := by
  obtain ⟨k, rfl⟩ : ∃ k, kk = k + 1 := ⟨kk - 1, by omega⟩
  exact isInt_ok hf a b
theorem powerA (hf : P.fns[i]? = some powerF) (hk : 0 < kk) {w : Int} (h0 : 0 ≤ w) (h1 : w < 1000) : callF P wn kk i [.val (.int w)] = .ok (.val (.int (2 ^ w.toNat))) [.un] := by
  obtain ⟨k, rfl⟩ : ∃ k, kk = k + 1 := ⟨kk - 1, by omega⟩
  exact power_ok hf h0 h1
theorem codeA {ip id : Nat} (hf : P.fns[i]? = some (codeF ip id)) (hp : P.fns[ip]? = some powerF) (hd : P.fns[id]? = some drawF) (hk : 1 < kk) {xs : List D} (ht : Tp xs) {w : Int} (h0 : 1 ≤ w) (h1 : w < 200) :
    ∃ (r : Int) (ys : List D), callF P wn kk i [.own xs, .val (.int w)] = .ok (.val (.int r)) [.own ys, .un] ∧ Tp ys ∧ 0 ≤ r ∧ r < 2 ^ w.toNat := by
  obtain ⟨k, rfl⟩ : ∃ k, kk = k + 2 := ⟨kk - 2, by omega⟩
  exact code_ok hf hp hd ht h0 h1
theorem codeOfA (hf : P.fns[i]? = some codeOfF) (hk : 0 < kk) (n : Int) {w : Int} (h0 : 0 ≤ w) (h1 : w ≤ 1000) : callF P wn kk i [.val (.int n), .val (.int w)] = .ok (.val (.int (if n < 0 then n + 2 ^ w.toNat else n))) [.un, .un] := by
  obtain ⟨k, rfl⟩ : ∃ k, kk = k + 1 := ⟨kk - 1, by omega⟩
  exact codeOf_ok hf n h0 h1
theorem numberOfA (hf : P.fns[i]? = some numberOfF) (hk : 0 < kk) (c : Int) {w : Int} (h0 : 1 ≤ w) (h1 : w ≤ 1000) (s : Bool) : callF P wn kk i [.val (.int c), .val (.int w), .val (.bl s)] = .ok (.val (.int (if s = true ∧ 2 ^ (w - 1).toNat ≤ c then c - 2 ^ w.toNat else c))) [.un, .un, .un] := by
  obtain ⟨k, rfl⟩ : ∃ k, kk = k + 1 := ⟨kk - 1, by omega⟩
  exact numberOf_ok hf c h0 h1 s
end
end MP

/-! MP: running with side conditions. -/
namespace MP
open PySem L2
theorem ofS_inj {a b : String} (h : Str.ofString a = Str.ofString b) : a = b := by
  rw [Str.ofString_eq_toList, Str.ofString_eq_toList] at h
  have h2 := congrArg (fun z : Str => z.cps.toList) h
  simp only [List.toList_toArray] at h2
  have key : ∀ (l m : List Char), l.map Char.toNat = m.map Char.toNat → l = m := fun l => by
    induction l with
    | nil => intro m h; cases m with
      | nil => rfl
      | cons _ _ => cases h
    | cons c l ih => intro m h; cases m with
      | nil => cases h
      | cons d m =>
        simp only [List.map_cons, List.cons.injEq] at h
        rw [ih m h.2]
        have : c = d := Char.ext (UInt32.toNat_inj.mp h.1)
        rw [this]
  exact String.toList_inj.mp (key _ _ h2)
theorem sEq (a b : String) : (Str.ofString a = Str.ofString b) = (a = b) := propext ⟨ofS_inj, fun h => by rw [h]⟩
theorem atI_0 {α : Type} (a : α) (r : List α) : atI (a :: r) 0 = some a := by
  rw [atI_ok (by decide) (by rw [List.length_cons]; omega)]; rfl
theorem atI_1 {α : Type} (a b : α) (r : List α) : atI (a :: b :: r) 1 = some b := by
  rw [atI_ok (by decide) (by simp; omega)]; rfl
theorem atI_2 {α : Type} (a b c : α) (r : List α) : atI (a :: b :: c :: r) 2 = some c := by
  rw [atI_ok (by decide) (by simp; omega)]; rfl
theorem atI_3 {α : Type} (a b c d : α) (r : List α) : atI (a :: b :: c :: d :: r) 3 = some d := by
  rw [atI_ok (by decide) (by simp; omega)]; rfl
theorem atI_4 {α : Type} (a b c d e : α) (r : List α) : atI (a :: b :: c :: d :: e :: r) 4 = some e := by
  rw [atI_ok (by decide) (by simp; omega)]; rfl
theorem atI_5 {α : Type} (a b c d e f : α) (r : List α) : atI (a :: b :: c :: d :: e :: f :: r) 5 = some f := by
  rw [atI_ok (by decide) (by simp; omega)]; rfl
theorem atI_6 {α : Type} (a b c d e f g : α) (r : List α) : atI (a :: b :: c :: d :: e :: f :: g :: r) 6 = some g := by
  rw [atI_ok (by decide) (by simp; omega)]; rfl
theorem atI_m {α : Type} {xs : List α} (h : xs ≠ []) : atI xs (-1) = xs[xs.length - 1]? := by
  have hl : 0 < xs.length := List.length_pos_iff.mpr h
  unfold atI ixN
  rw [if_neg (by omega), if_pos (by omega)]
  show xs[((-1 : Int) + xs.length).toNat]? = _
  congr 1; omega
theorem atI_mapp {α : Type} (xs : List α) (x : α) : atI (xs ++ [x]) (-1) = some x := by
  rw [atI_m (by simp)]; simp
theorem atI_m1 {α : Type} (a : α) : atI [a] (-1) = some a := rfl
/-- from a list's items -/
theorem menu {α : Type} {xs : List α} {r : Int} (h0 : 0 ≤ r) (h1 : r < xs.length) : ∃ x, x ∈ xs ∧ atI xs r = some x := by
  have hn : r.toNat < xs.length := by omega
  exact ⟨xs[r.toNat], List.getElem_mem hn, by rw [atI_ok h0 h1, List.getElem?_eq_getElem hn]⟩
theorem at_map {α β : Type} (f : α → β) (xs : List α) (i : Int) : atI (xs.map f) i = (atI xs i).map f := by
  unfold atI
  rw [List.length_map]
  cases ixN xs.length i with
  | none => rfl
  | some j =>
    show (xs.map f)[j]? = (xs[j]?).map f
    rw [List.getElem?_map]
theorem sz_le {n : Nat} (h : n ≤ 1000000) : n ≤ sizeLine := by rw [sizeLine_eq]; omega
theorem sz_lt {n : Nat} (h : n ≤ 1000000) : n < sizeLine := by rw [sizeLine_eq]; omega
theorem sz_if {α : Type} {n : Nat} {a b : α} (h : n ≤ 1000000) : (if n ≤ sizeLine then a else b) = a := if_pos (sz_le h)
theorem dlt_t {a b : Int} (h : a < b) : decide (a < b) = true := decide_eq_true h
theorem dlt_f {a b : Int} (h : ¬ a < b) : decide (a < b) = false := decide_eq_false h
theorem dle_t {a b : Int} (h : a ≤ b) : decide (a ≤ b) = true := decide_eq_true h
theorem dle_f {a b : Int} (h : ¬ a ≤ b) : decide (a ≤ b) = false := decide_eq_false h
theorem beq_t {a b : Int} (h : a = b) : (a == b) = true := by simp [h]
theorem beq_f {a b : Int} (h : ¬ a = b) : (a == b) = false := by simp [h]
theorem bne_t {a b : Int} (h : ¬ a = b) : (a != b) = true := by simp [h]
theorem bne_f {a b : Int} (h : a = b) : (a != b) = false := by simp [h]
theorem mul_okr {i j : Int} (h : -18446744073709551616 < j) (h2 : j < 18446744073709551616) : binop .mul (.int i) (.int j) = some (.val (.int (i * j))) := by
  rw [mul_i, mulOk_r ⟨h, h2⟩]; rfl
theorem mul_okl {i j : Int} (h : -18446744073709551616 < i) (h2 : i < 18446744073709551616) : binop .mul (.int i) (.int j) = some (.val (.int (i * j))) := by
  rw [mul_i, mulOk_l ⟨h, h2⟩]; rfl
theorem fdiv_ok {i j : Int} (h : 0 < j) (h2 : j < 18446744073709551616) : binop .fdiv (.int i) (.int j) = some (.val (.int (i / j))) := by
  rw [fdiv_i, when_pos]
  rw [decide_eq_true h, decide_eq_true (show j < 2 ^ 256 by omega)]; rfl
theorem mod_ok {i j : Int} (h : 0 < j) : binop .mod (.int i) (.int j) = some (.val (.int (i % j))) := by
  rw [mod_i, when_pos (decide_eq_true h)]
theorem shl1_ok {j : Int} (h : 0 ≤ j) (h2 : j ≤ 1000000) : binop .shl (.int 1) (.int j) = some (.val (.int (2 ^ j.toNat))) := by
  rw [shl_i, when_pos (shl1 h h2), Int.one_mul]
theorem shl_ok {i j : Int} (h : 0 ≤ j) (h2 : j ≤ 1000000) (h3 : -18446744073709551616 < i) (h4 : i < 18446744073709551616) : binop .shl (.int i) (.int j) = some (.val (.int (i * 2 ^ j.toNat))) := by
  rw [shl_i, when_pos]
  unfold powOk
  rw [decide_eq_true h, decide_eq_true h2, decide_eq_true (show -(2 ^ 64) < i by omega), decide_eq_true (show i < 2 ^ 64 by omega)]; rfl
theorem shr_ok {i j : Int} (h : 0 ≤ j) : binop .shr (.int i) (.int j) = some (.val (.int (i / 2 ^ j.toNat))) := by
  rw [shr_i, when_pos (decide_eq_true h)]
theorem add_t {xs ys : List D} (h : xs.length + ys.length ≤ 1000000) : binop .add (.tup xs) (.tup ys) = some (.val (.tup (xs ++ ys))) := by
  show when (decide (xs.length + ys.length ≤ sizeLine)) (Slot.val (.tup (xs ++ ys))) = _
  rw [when_pos (decide_eq_true (sz_le h))]
theorem add_lo {xs ys : List D} (h : xs.length + ys.length ≤ 1000000) : binop .add (.lst xs) (.lst ys) = some (.own (xs ++ ys)) := by
  show when (decide (xs.length + ys.length ≤ sizeLine)) (Slot.own (xs ++ ys)) = _
  rw [when_pos (decide_eq_true (sz_le h))]
theorem add_so {x y : Str} (h : x.length + y.length ≤ 1000000) : binop .add (.str x) (.str y) = some (.val (.str (x ++ y))) := by
  show when (decide (x.length + y.length ≤ sizeLine)) (Slot.val (.str (x ++ y))) = _
  rw [when_pos (decide_eq_true (sz_le h))]
theorem app_ok {n : Nat} {α : Type} {a : α} (h : n < 1000000) : when (decide (n < sizeLine)) a = some a := when_pos (decide_eq_true (sz_lt (by omega))) a
theorem ext_ok {n : Nat} {α : Type} {a : α} (h : n ≤ 1000000) : when (decide (n ≤ sizeLine)) a = some a := when_pos (decide_eq_true (sz_le h)) a
theorem rng1_ok {j : Int} (h : -4000000000000000000 ≤ j) (h2 : j ≤ 4000000000000000000) : rngI [.int j] = some (upto 0 j.toNat) := rng1 (inRg_of (by omega) (by omega))
theorem rng2_ok {i j : Int} (h : -4000000000000000000 ≤ j) (h2 : j ≤ 4000000000000000000) (h3 : -4000000000000000000 ≤ i) (h4 : i ≤ 4000000000000000000) : rngI [.int i, .int j] = some (upto i (j - i).toNat) := by
  show when (inRg i && inRg j) _ = _
  rw [inRg_of (by omega) (by omega), inRg_of (by omega) (by omega)]; rfl
theorem eq_n (d : D) : cmpop .is d .non = some d.isNon := by cases d <;> rfl
theorem ne_n (d : D) : cmpop .isnot d .non = some (!d.isNon) := by cases d <;> rfl
theorem isN_n : D.isNon .non = true := rfl
theorem isN_i (i : Int) : D.isNon (.int i) = false := rfl
theorem isN_s (i : Str) : D.isNon (.str i) = false := rfl
theorem isN_t (i : List D) : D.isNon (.tup i) = false := rfl
theorem isN_l (i : List D) : D.isNon (.lst i) = false := rfl
theorem isN_b (i : Bool) : D.isNon (.bl i) = false := rfl
theorem tr_t (xs : List D) : truth (.tup xs) = some (!xs.isEmpty) := rfl
theorem tr_l (xs : List D) : truth (.lst xs) = some (!xs.isEmpty) := rfl
theorem tr_i (i : Int) : truth (.int i) = some (i != 0) := rfl
theorem kix_s (t : List (Str × D)) (z : Str) : kixD (some t) (.str z) = (look t z).map .val := rfl
theorem look_c (k : Str) (d : D) (r : List (Str × D)) (z : Str) : look ((k, d) :: r) z = if k = z then some d else look r z := rfl
theorem look_n (z : Str) : look [] z = none := rfl
theorem ixd (ks : List Key) (vs : List D) (k : D) : index (.dic ks vs) k = (keyOf k).bind fun k => (dlook ks vs k).map .val := by cases k <;> rfl
theorem key_i (i : Int) : keyOf (.int i) = some (.inl i) := rfl
theorem key_s (i : Str) : keyOf (.str i) = some (.inr i) := rfl
theorem dl_c (k' : Key) (v : D) (ks : List Key) (vs : List D) (k : Key) : dlook (k' :: ks) (v :: vs) k = if k' = k then some v else dlook ks vs k := rfl
theorem sum_ii (i j : Int) : ((Sum.inl i : Key) = Sum.inl j) = (i = j) := by simp
theorem sum_ss (i j : Str) : ((Sum.inr i : Key) = Sum.inr j) = (i = j) := by simp
theorem isi_tt (xs : List D) : D.isTy (.tup xs) .tuple = some true := rfl
theorem isi_tl (xs : List D) : D.isTy (.tup xs) .list = some false := rfl
theorem isi_ts (xs : List D) : D.isTy (.tup xs) .str = some false := rfl
theorem isi_tb (xs : List D) : D.isTy (.tup xs) .bool = some false := rfl
theorem isi_ti (xs : List D) : D.isTy (.tup xs) .int = some false := rfl
theorem isi_ll (xs : List D) : D.isTy (.lst xs) .list = some true := rfl
theorem isi_lt (xs : List D) : D.isTy (.lst xs) .tuple = some false := rfl
theorem isi_ss (x : Str) : D.isTy (.str x) .str = some true := rfl
theorem isi_st (x : Str) : D.isTy (.str x) .tuple = some false := rfl
theorem isi_sl (x : Str) : D.isTy (.str x) .list = some false := rfl
theorem isi_sb (x : Str) : D.isTy (.str x) .bool = some false := rfl
theorem isi_si (x : Str) : D.isTy (.str x) .int = some false := rfl
theorem isi_is (i : Int) : D.isTy (.int i) .str = some false := rfl
theorem isi_it (i : Int) : D.isTy (.int i) .tuple = some false := rfl
theorem isi_il (i : Int) : D.isTy (.int i) .list = some false := rfl
theorem isi_bb (i : Bool) : D.isTy (.bl i) .bool = some true := rfl
theorem isi_bi (i : Bool) : D.isTy (.bl i) .int = some true := rfl
theorem isi_bt (i : Bool) : D.isTy (.bl i) .tuple = some false := rfl
theorem isi_blx (i : Bool) : D.isTy (.bl i) .list = some false := rfl
theorem isi_nt : D.isTy .non .tuple = some false := rfl
theorem isi_nl : D.isTy .non .list = some false := rfl
theorem isi_nb : D.isTy .non .bool = some false := rfl
theorem isi_ni : D.isTy .non .int = some false := rfl
theorem isi_ns : D.isTy .non .str = some false := rfl
theorem eq_b (a b : Bool) : cmpop .eq (.bl a) (.bl b) = some (a == b) := rfl
/-- x in (a, b, ..), texts -/
theorem inS_t (x : Str) (xs : List Str) : cmpop .in_ (.str x) (.tup (xs.map .str)) = some (xs.any fun y => decide (y = x)) := by
  have e : (xs.map D.str).all D.isAtom = true := by rw [List.all_eq_true]; intro d h; obtain ⟨y, _, rfl⟩ := List.mem_map.mp h; rfl
  show when (true && (xs.map D.str).all D.isAtom) (inB (.str x) (xs.map .str)) = _
  rw [e]
  show some (inB (.str x) (xs.map .str)) = _
  unfold inB
  rw [List.any_map]; rfl
theorem sl12 (a b c d e f g h i j k l m : Slot) (r : Fr) : Fr.sl (a :: b :: c :: d :: e :: f :: g :: h :: i :: j :: k :: l :: m :: r) 12 = m := rfl
theorem sl13 (a b c d e f g h i j k l m n : Slot) (r : Fr) : Fr.sl (a :: b :: c :: d :: e :: f :: g :: h :: i :: j :: k :: l :: m :: n :: r) 13 = n := rfl
theorem sl14 (a b c d e f g h i j k l m n o : Slot) (r : Fr) : Fr.sl (a :: b :: c :: d :: e :: f :: g :: h :: i :: j :: k :: l :: m :: n :: o :: r) 14 = o := rfl
theorem set12 {α : Type} (a b c d e f g h i j k l m x : α) (r : List α) : (a :: b :: c :: d :: e :: f :: g :: h :: i :: j :: k :: l :: m :: r).set 12 x = a :: b :: c :: d :: e :: f :: g :: h :: i :: j :: k :: l :: x :: r := rfl
theorem set13 {α : Type} (a b c d e f g h i j k l m n x : α) (r : List α) : (a :: b :: c :: d :: e :: f :: g :: h :: i :: j :: k :: l :: m :: n :: r).set 13 x = a :: b :: c :: d :: e :: f :: g :: h :: i :: j :: k :: l :: m :: x :: r := rfl
theorem set14 {α : Type} (a b c d e f g h i j k l m n o x : α) (r : List α) : (a :: b :: c :: d :: e :: f :: g :: h :: i :: j :: k :: l :: m :: n :: o :: r).set 14 x = a :: b :: c :: d :: e :: f :: g :: h :: i :: j :: k :: l :: m :: n :: x :: r := rfl
section
variable (P : Prg) (cl : Calls) (fr : Fr) (m : Mt) (a : E) (es : List E)
theorem mt_v : (ev P cl (.mt m a es)).v fr = bX (fun x => bnd (rdO x) fun d0 => selM (bnd (opds (evs P cl es)) fun os => bnd (rdO x) fun d => bnd (rdOs os) fun ds => opt (mt m d ds)) bad (m.tyOk d0)) ((ev P cl a).o fr) := rfl
theorem mt_o : (ev P cl (.mt m a es)).o fr = bX slK ((ev P cl (.mt m a es)).v fr) := rfl
theorem mt_t : (ev P cl (.mt m a es)).t fr = bX tru ((ev P cl (.mt m a es)).v fr) := rfl
theorem mt_i : (ev P cl (.mt m a es)).i fr = bX itK ((ev P cl (.mt m a es)).v fr) := rfl
theorem lc_t (t : Tg) (it : E) (ifs : List E) (own : List Nat) : (ev P cl (.lc a t it ifs own)).t fr = bX tru ((ev P cl (.lc a t it ifs own)).v fr) := rfl
theorem part_mn (f : Ev → M D) : part (List.map f []) fr = .ok none fr := rfl
theorem part_mc (f : Ev → M D) (e : Ev) (r : List Ev) : part (List.map f (e :: r)) fr = bX partK (f e fr) := rfl
theorem zip_i : (ev P cl (.zip es)).i fr = bX (fun ds => bnd (opt (zipV ds)) fun xs => ret (xs, [])) (vals (evs P cl es) fr) := rfl
theorem enuOk_l (xs : List D) : enuOk (.lst xs) = true := rfl
theorem enuOk_t (xs : List D) : enuOk (.tup xs) = true := rfl
theorem zipV_ll (xs ys : List D) : zipV [.lst xs, .lst ys] = some (zip2I xs ys) := rfl
theorem zipV_lt (xs ys : List D) : zipV [.lst xs, .tup ys] = some (zip2I xs ys) := rfl
theorem zipV_tl (xs ys : List D) : zipV [.tup xs, .lst ys] = some (zip2I xs ys) := rfl
theorem zipV_tt (xs ys : List D) : zipV [.tup xs, .tup ys] = some (zip2I xs ys) := rfl
theorem fs_v : (ev P cl (.fs es)).v fr = bX (fun x => ret (.val (.str x))) (fsM (evs P cl es) Str.empty fr) := rfl
theorem fs_o : (ev P cl (.fs es)).o fr = bX slK ((ev P cl (.fs es)).v fr) := rfl
theorem fsM_n (x : Str) : fsM [] x fr = .ok x fr := rfl
theorem fsM_c (e : Ev) (r : List Ev) (x : Str) : fsM (e :: r) x fr = bX (fun d => bnd (opt (strOf d)) fun y => if (x ++ y).length ≤ sizeLine then fsM r (x ++ y) else bad) (fz e.v fr) := rfl
theorem ty_split (x : Str) : Mt.tyOk .split (.str x) = true := rfl
theorem ty_endswith (x : Str) : Mt.tyOk .endswith (.str x) = true := rfl
theorem ty_startswith (x : Str) : Mt.tyOk .startswith (.str x) = true := rfl
theorem ty_join (x : Str) : Mt.tyOk .join (.str x) = true := rfl
theorem ty_index (x : List D) : Mt.tyOk .index (.lst x) = true := rfl
theorem ty_get (x : List Key) (y : List D) : Mt.tyOk .get (.dic x y) = true := rfl
end
/-! ### comprehensions -/
theorem len_set {fr : Fr} {i : Nat} {s : Slot} : (fr.set i s).length = fr.length := List.length_set ..
theorem wipe_len (own : List Nat) (fr : Fr) : (wipeF own fr).length = fr.length := by
  induction own with
  | nil => rfl
  | cons i r ih => rw [wipeF_cons, len_set, ih]
theorem put_len (own : List Nat) (old fr : Fr) : (putF own old fr).length = fr.length := by
  induction own with
  | nil => rfl
  | cons i r ih => rw [putF_cons, len_set, ih]
theorem sl_out {fr : Fr} {i : Nat} (h : fr.length ≤ i) : fr.sl i = .un := by
  unfold Fr.sl; rw [List.getD_eq_getElem?_getD, List.getElem?_eq_none h]; rfl
theorem wipe_sl (own : List Nat) (fr : Fr) (j : Nat) : (wipeF own fr).sl j = if j ∈ own then .un else fr.sl j := by
  induction own with
  | nil => rfl
  | cons i r ih =>
    rw [wipeF_cons, sl_set, ih, wipe_len]
    by_cases h : i = j
    · subst h
      by_cases h2 : i < fr.length
      · simp [h2]
      · rw [if_neg (fun q => h2 q.2)]
        have := sl_out (fr := fr) (i := i) (by omega)
        simp [this]
    · rw [if_neg (fun q => h q.1)]
      have e : (j ∈ i :: r) ↔ (j ∈ r) := by simp; intro q; exact absurd q.symm h
      simp only [e]
theorem put_sl (own : List Nat) (old fr : Fr) (hl : old.length = fr.length) (j : Nat) : (putF own old fr).sl j = if j ∈ own then old.sl j else fr.sl j := by
  induction own with
  | nil => rfl
  | cons i r ih =>
    rw [putF_cons, sl_set, ih, put_len]
    by_cases h : i = j
    · subst h
      by_cases h2 : i < fr.length
      · simp [h2]
      · rw [if_neg (fun q => h2 q.2)]
        have := sl_out (fr := fr) (i := i) (by omega)
        have h3 := sl_out (fr := old) (i := i) (by omega)
        simp [this, h3]
    · rw [if_neg (fun q => h q.1)]
      have e : (j ∈ i :: r) ↔ (j ∈ r) := by simp; intro q; exact absurd q.symm h
      simp only [e]
theorem fr_ext {a b : Fr} (hl : a.length = b.length) (h : ∀ j, a.sl j = b.sl j) : a = b := by
  refine List.ext_getElem? fun j => ?_
  by_cases hj : j < a.length
  · have := h j
    unfold Fr.sl at this
    rw [List.getD_eq_getElem?_getD, List.getD_eq_getElem?_getD, List.getElem?_eq_getElem hj, List.getElem?_eq_getElem (by omega)] at this
    rw [List.getElem?_eq_getElem hj, List.getElem?_eq_getElem (by omega)]
    exact congrArg some this
  · rw [List.getElem?_eq_none (by omega), List.getElem?_eq_none (by omega)]
theorem put_back {own : List Nat} {fr fr' : Fr} (h : wipeF own fr' = wipeF own fr) : putF own fr fr' = fr := by
  have hl : fr'.length = fr.length := by rw [← wipe_len own fr', h, wipe_len]
  refine fr_ext (by rw [put_len, hl]) fun j => ?_
  rw [put_sl own fr fr' hl.symm]
  by_cases hj : j ∈ own
  · rw [if_pos hj]
  · rw [if_neg hj]
    have := congrArg (fun z : Fr => z.sl j) h
    simp only [wipe_sl, if_neg hj] at this
    exact this
section
variable {own : List Nat} {tgt : D → M Unit} {ifs : M Bool} {el : M (List D)}
theorem lc_fm {α : Type} (E : α → List D) (g : α → D) {fr : Fr} : ∀ (its : List α) (fr1 : Fr), wipeF own fr1 = wipeF own fr → (∀ a ∈ its, ∃ fr2, bX (fun _ => bnd ifs fun b => selM el (ret []) b) (tgt (g a) (wipeF own fr)) = .ok (E a) fr2 ∧ wipeF own fr2 = wipeF own fr) →
    ∃ fr2, lcL own tgt ifs el (its.map g) fr1 = .ok (its.flatMap E) fr2 ∧ wipeF own fr2 = wipeF own fr
  | [], fr1, h1, _ => ⟨fr1, rfl, h1⟩
  | a :: its, fr1, h1, h => by
    obtain ⟨fr2, e, h2⟩ := h a List.mem_cons_self
    obtain ⟨fr3, e3, h3⟩ := lc_fm E g its fr2 h2 fun b hb => h b (List.mem_cons_of_mem _ hb)
    refine ⟨fr3, ?_, h3⟩
    rw [List.map_cons, lcL_cons, lcStep_ap, h1, e]
    show bndO (lcL own tgt ifs el (its.map g) fr2) _ = _
    rw [e3]; rfl
/-- a comprehension that changes nothing: its items one by one -/
theorem lc_flat {α : Type} (its : List α) (g : α → D) (E : α → List D) {fr : Fr} {lk : List Nat} (h : ∀ a ∈ its, ∃ fr2, bX (fun _ => bnd ifs fun b => selM el (ret []) b) (tgt (g a) (wipeF own fr)) = .ok (E a) fr2 ∧ wipeF own fr2 = wipeF own fr) (hl : (its.flatMap E).length ≤ 1000000) :
    lcEnd own fr lk (lcL own tgt ifs el (its.map g) fr) = .ok (its.flatMap E) (unlk lk fr) := by
  obtain ⟨fr2, e, h2⟩ := lc_fm E g its fr rfl h
  rw [e, lcEnd_ok (sz_lt hl), put_back h2]
theorem flat_one {α β : Type} (its : List α) (E : α → β) : (its.flatMap fun a => [E a]) = its.map E := by
  induction its with
  | nil => rfl
  | cons a r ih => simp [ih]
theorem lc_map {α : Type} (its : List α) (g E : α → D) {fr : Fr} {lk : List Nat} (h : ∀ a ∈ its, ∃ fr2, bX (fun _ => bnd ifs fun b => selM el (ret []) b) (tgt (g a) (wipeF own fr)) = .ok [E a] fr2 ∧ wipeF own fr2 = wipeF own fr) (hl : its.length ≤ 1000000) :
    lcEnd own fr lk (lcL own tgt ifs el (its.map g) fr) = .ok (its.map E) (unlk lk fr) := by
  rw [← flat_one its E]
  exact lc_flat its g (fun a => [E a]) h (by rw [flat_one, List.length_map]; exact hl)
end
theorem upto_eq : ∀ (n : Nat) (lo : Int), upto lo n = (List.range n).map fun (i : Nat) => D.int (lo + i)
  | 0, lo => rfl
  | n + 1, lo => by
    rw [upto, upto_eq n, List.range_succ_eq_map, List.map_cons, List.map_map]
    congr 1
    · congr 1; omega
    · refine List.map_congr_left fun i _ => ?_
      show D.int (lo + 1 + i) = D.int (lo + (i + 1 : Nat))
      congr 1; omega
theorem strOf_s {x : Str} (h : x.length ≤ 1000000) : strOf (.str x) = some x := when_pos (decide_eq_true (sz_le h)) x
theorem zip2_map {α β : Type} (f : α → D) (g : β → D) : ∀ (xs : List α) (ys : List β), zip2I (xs.map f) (ys.map g) = (xs.zip ys).map fun p => D.tup [f p.1, g p.2]
  | [], _ => rfl
  | _ :: _, [] => rfl
  | x :: xs, y :: ys => by
    show D.tup [f x, g y] :: zip2I (xs.map f) (ys.map g) = _
    rw [zip2_map f g xs ys]; rfl
theorem sl_t (xs : List D) (lo hi : Option Int) : slice (.tup xs) lo hi = some (.val (.tup (cutD xs lo hi))) := rfl
theorem sl_l (xs : List D) (lo hi : Option Int) : slice (.lst xs) lo hi = some (.own (cutD xs lo hi)) := rfl
/-! ### loops -/
/-- what a call does -/
def CSat (o : COut) (Q : Slot → List Slot → Prop) : Prop := match o with
  | .ok s ps => Q s ps
  | _ => False
theorem CSat.get {o : COut} {Q : Slot → List Slot → Prop} (h : CSat o Q) : ∃ s ps, o = .ok s ps ∧ Q s ps := by
  cases o with
  | ok s ps => exact ⟨s, ps, rfl, h⟩
  | _ => exact h.elim
theorem csat_ok (s : Slot) (ps : List Slot) (Q : Slot → List Slot → Prop) : CSat (.ok s ps) Q = Q s ps := rfl
section
variable {tgt : D → M Unit} {body : Fr → SOut}
theorem for_cut {G : SOut → Prop} {xs : List D} {fr : Fr} (I : Nat → Fr → Prop) (h0 : I 0 fr) (st : ∀ j x fr, xs[j]? = some x → I j fr → ∃ fr', I (j + 1) fr' ∧ (turnO tgt body x fr = .nx fr' ∨ turnO tgt body x fr = .ct fr')) (k : ∀ fr', I xs.length fr' → G (.nx fr')) : G (forL tgt body xs fr) := by
  obtain ⟨fr', h, e⟩ := forL_ix (tgt := tgt) (body := body) I xs 0 fr h0 fun j x fr hj hi => by
    rw [Nat.zero_add] at hi ⊢
    exact st j x fr hj hi
  rw [e]
  rw [Nat.zero_add] at h
  exact k fr' h
/-- one turn, told by what follows -/
def TSat (o : SOut) (Q : Fr → Prop) : Prop := match o with
  | .nx fr => Q fr
  | .ct fr => Q fr
  | _ => False
theorem tsat_nx (fr : Fr) (Q : Fr → Prop) : TSat (.nx fr) Q = Q fr := rfl
theorem tsat_ct (fr : Fr) (Q : Fr → Prop) : TSat (.ct fr) Q = Q fr := rfl
theorem TSat.get {o : SOut} {Q : Fr → Prop} (h : TSat o Q) : ∃ fr', Q fr' ∧ (o = .nx fr' ∨ o = .ct fr') := by
  cases o with
  | nx fr => exact ⟨fr, h, .inl rfl⟩
  | ct fr => exact ⟨fr, h, .inr rfl⟩
  | _ => exact h.elim
theorem for_t {G : SOut → Prop} {xs : List D} {fr : Fr} (I : Nat → Fr → Prop) (h0 : I 0 fr) (st : ∀ j x fr, xs[j]? = some x → I j fr → TSat (turnO tgt body x fr) (I (j + 1))) (k : ∀ fr', I xs.length fr' → G (.nx fr')) : G (forL tgt body xs fr) :=
  for_cut I h0 (fun j x fr hj hi => (st j x fr hj hi).get) k
/-- by items only -/
theorem for_m {G : SOut → Prop} {xs : List D} {fr : Fr} (I : Fr → Prop) (h0 : I fr) (st : ∀ x fr, x ∈ xs → I fr → TSat (turnO tgt body x fr) I) (k : ∀ fr', I fr' → G (.nx fr')) : G (forL tgt body xs fr) :=
  for_t (fun _ => I) h0 (fun j x fr hj hi => st x fr (List.mem_of_getElem? hj) hi) k
end
theorem unlk_c (i : Nat) (r : List Nat) (fr : Fr) : unlk (i :: r) fr = unlk r (match fr.sl i with | .lk xs => fr.set i (.own xs) | _ => fr) := rfl
end MP

/-! MP: the places of shared defs. -/
namespace MP
open PySem L2
structure Ix where
  law_tape : Nat := 0
  law_draw : Nat := 0
  law_name : Nat := 0
  law_runs : Nat := 0
  law_same : Nat := 0
  law_size : Nat := 0
  law_any_word : Nat := 0
  law_a_count : Nat := 0
  law_bounds : Nat := 0
  law_a_field : Nat := 0
  law_ranges : Nat := 0
  law_a_number : Nat := 0
  law_part : Nat := 0
  law_case_numbers : Nat := 0
  law_not_empty : Nat := 0
  law_rich : Nat := 0
  law_rich_item : Nat := 0
  law_fixed : Nat := 0
  law_rich_word : Nat := 0
  law_rich_choice : Nat := 0
  law_extent : Nat := 0
  law_extent_of : Nat := 0
  law_scopes : Nat := 0
  law_kinds : Nat := 0
  word_size : Nat := 0
  count_of : Nat := 0
  allowed_numbers : Nat := 0
  frame_size : Nat := 0
  mark_size : Nat := 0
  element_layout : Nat := 0
  fixed_size : Nat := 0
  item_sizes : Nat := 0
  sizes : Nat := 0
  fields : Nat := 0
  slots : Nat := 0
  kind_of : Nat := 0
  members : Nat := 0
  first_bits : Nat := 0
  store : Nat := 0
  law_is_integer : Nat := 0
  law_power : Nat := 0
  law_code : Nat := 0
  law_horner : Nat := 0
  law_are_bytes : Nat := 0
  fetch : Nat := 0
  allows : Nat := 0
  wrap : Nat := 0
  case_named : Nat := 0
  inside : Nat := 0
  invalid_value : Nat := 0
  invalid_inside : Nat := 0
  first_invalid : Nat := 0
  law_fits : Nat := 0
  law_a_row : Nat := 0
  law_invalid : Nat := 0
  law_invalid_in : Nat := 0
  law_spoilt : Nat := 0
  law_spoilt_in : Nat := 0
  law_strange : Nat := 0
  facts_of_value : Nat := 0
  facts_inside : Nat := 0
  facts_of : Nat := 0
  law_facts : Nat := 0
  law_facts_in : Nat := 0
  code_of : Nat := 0
  unwrap : Nat := 0
  ones : Nat := 0
  free_bits : Nat := 0
  agreement : Nat := 0
  set_of : Nat := 0
  whole_set : Nat := 0
  whole_entry : Nat := 0
  whole : Nat := 0
  law_listed : Nat := 0
  law_set : Nat := 0
  law_every : Nat := 0
  law_full : Nat := 0
  law_full_of : Nat := 0
  law_once : Nat := 0
  law_drawn_set : Nat := 0
  law_around : Nat := 0
  number_of : Nat := 0
  single_set : Nat := 0
  contains : Nat := 0
  set_size : Nat := 0
  some_number : Nat := 0
  single_entry : Nat := 0
  single : Nat := 0
  value_belongs : Nat := 0
  belongs : Nat := 0
  values_of : Nat := 0
  how_many : Nat := 0
  some_value : Nat := 0
  some_record : Nat := 0
  only : Nat := 0
  law_pattern : Nat := 0
  law_pattern_of : Nat := 0
  law_some : Nat := 0
  law_some_of : Nat := 0
  law_some_set : Nat := 0
  law_has : Nat := 0
  law_has_in : Nat := 0
  law_in_set : Nat := 0
  law_row_in : Nat := 0
  law_thing_in : Nat := 0
  law_number_in : Nat := 0
  law_constant : Nat := 0
  law_crossed : Nat := 0
  law_series : Nat := 0
  law_small : Nat := 0
  law_joined : Nat := 0
  law_small_item : Nat := 0
  law_small_word : Nat := 0
  law_small_choice : Nat := 0
  law_total : Nat := 0
  law_total_in : Nat := 0
  law_total_set : Nat := 0
  with_member : Nat := 0
  law_reached : Nat := 0
  g_COMPOSITES : Nat := 0
  d_WORD_SIZES : Nat := 0
theorem io_of {P : Prg} {i : Nat} {f : Fn} (h : P.fns[i]? = some f) : P.io i = f.io := by unfold Prg.io; rw [h]
end MP

/-! MP: rich layouts: the defs, the data. -/
namespace MP
open PySem L2
/- law_tape: 0 script 1 total 2 cell -/
def F_law_tape (I : Ix) : Fn := ⟨3, [false], [
  .asg 1 (.int 7),
  .for_ (.v 2) (.var 0) [
    .asg 1 (.bin .mod (.bi .int [.bin .add (.bin .mul (.var 1) (.int 31)) (.bi .abs [.bi .int [.var 2]])]) (.int 2147483647))],
  .ret (.lst [.bi .list [.var 0], .int 0, .int 0, .var 1])]⟩
/- law_draw: 0 tape_here 1 many 2 place 3 number -/
def F_law_draw (I : Ix) : Fn := ⟨4, [true, false], [
  .ite (.cmp .eq (.ix (.var 0) (.int 2)) (.int 0)) [
    .asg 2 (.ix (.var 0) (.int 1)),
    .asg 3 (.int 0),
    .ite (.cmp .lt (.var 2) (.bi .len [.ix (.var 0) (.int 0)])) [
      .asg 3 (.bi .abs [.bi .int [.ix (.ix (.var 0) (.int 0)) (.var 2)]])] [
      .setix 0 (.int 3) (.bin .mod (.bi .int [.bin .add (.bin .add (.bin .mul (.ix (.var 0) (.int 3)) (.int 48271)) (.var 2)) (.int 1)]) (.int 2147483647)),
      .asg 3 (.ix (.var 0) (.int 3))],
    .setix 0 (.int 1) (.bin .add (.var 2) (.int 1)),
    .ite (.cmp .lt (.var 3) (.bin .pow (.int 10) (.int 18))) [
      .asg 3 (.bin .mod (.bi .int [.bin .add (.bin .add (.bin .mul (.var 3) (.int 48271)) (.bin .mul (.var 2) (.int 69621))) (.int 5)]) (.int 2147483647)),
      .asg 3 (.bin .mod (.bi .int [.bin .mul (.var 3) (.int 69621)]) (.int 2147483629)),
      .ret (.bin .mod (.bi .int [.var 3]) (.bi .max [.var 1, .int 1]))] [],
    .setix 0 (.int 2) (.var 3)] [],
  .asg 3 (.ix (.var 0) (.int 2)),
  .setix 0 (.int 2) (.bin .fdiv (.var 3) (.bi .max [.var 1, .int 2])),
  .ret (.bin .mod (.bi .int [.var 3]) (.bi .max [.var 1, .int 1]))]⟩
/- law_name: 0 tape_here 1 used 2 signs 3 words 4 name_here 5 k 6 fresh -/
def F_law_name (I : Ix) : Fn := ⟨7, [true, true], [
  .asg 2 (.str "abcdefghijklmnopqrstuvwxyzABCDEFGHIJKLMNOPQRSTUVWXYZ0123456789_"),
  .asg 3 (.str "signed case u8 in list default bits choice record literal reserved check marked sum xor i8 length value"),
  .asg 4 (.ix (.lst [.str "", .str "", .str "", .str "reading_of_stat", .str "word", .str "word"]) (.call I.law_draw [.var 0, .int 6])),
  .ite (.cmp .eq (.var 4) (.str "word")) [
    .asg 4 (.ix (.mt .split (.var 3) [.str " "]) (.call I.law_draw [.var 0, .int 18]))] [],
  .ite (.cmp .eq (.var 4) (.str "")) [
    .asg 4 (.ix (.var 2) (.call I.law_draw [.var 0, .int 52]))] [],
  .for_ (.v 5) (.rng [.ix (.lst [.int 0, .int 0, .int 1, .int 2]) (.call I.law_draw [.var 0, .int 4])]) [
    .asg 4 (.bin .add (.var 4) (.ix (.var 2) (.call I.law_draw [.var 0, .int 63])))],
  .asg 6 (.var 4),
  .for_ (.v 5) (.rng [.bi .len [.var 1]]) [
    .ite (.cmp .in_ (.var 6) (.var 1)) [
      .asg 6 (.bin .add (.var 4) (.bi .str [.var 5]))] []],
  .ret (.var 6)]⟩
/- law_runs: 0 numbers 1 rows 2 number -/
def F_law_runs (I : Ix) : Fn := ⟨3, [false], [
  .asg 1 (.lst []),
  .for_ (.v 2) (.var 0) [
    .ite (.and (.var 1) (.cmp .eq (.ix (.ix (.var 1) (.neg (.int 1))) (.int 1)) (.bin .sub (.var 2) (.int 1)))) [
      .setix 1 (.neg (.int 1)) (.tup [.ix (.ix (.var 1) (.neg (.int 1))) (.int 0), .var 2])] [
      .ex (.app 1 (.tup [.var 2, .var 2]))]],
  .ret (.bi .tuple [.var 1])]⟩
/- law_size: 0 word -/
def F_law_size (I : Ix) : Fn := ⟨1, [false], [
  .ret (.ix (.dic [Sum.inr (Str.ofString "u8"), Sum.inr (Str.ofString "u16be"), Sum.inr (Str.ofString "u16le"), Sum.inr (Str.ofString "u32be"), Sum.inr (Str.ofString "u32le")] [.int 1, .int 2, .int 2, .int 4, .int 4]) (.var 0))]⟩
/- law_any_word: 0 tape_here -/
def F_law_any_word (I : Ix) : Fn := ⟨1, [true], [
  .ret (.ix (.lst [.str "u8", .str "u8", .str "u16be", .str "u16le", .str "u32be", .str "u32le"]) (.call I.law_draw [.var 0, .int 6]))]⟩
/- law_a_count: 0 tape_here 1 least 2 greatest 3 share -/
def F_law_a_count (I : Ix) : Fn := ⟨4, [true, false, false], [
  .asg 3 (.call I.law_draw [.var 0, .int 3]),
  .ite (.and (.cmp .eq (.var 1) (.var 2)) (.cmp .gt (.var 3) (.int 0))) [
    .ret (.tup [.str "exactly", .var 2])] [],
  .ite (.and (.cmp .eq (.var 1) (.int 0)) (.cmp .gt (.var 3) (.int 0))) [
    .ret (.tup [.str "marked", .var 2])] [],
  .ret (.tup [.str "counted", .call I.law_any_word [.var 0], .var 1, .var 2])]⟩
/- law_bounds: 0 count -/
def F_law_bounds (I : Ix) : Fn := ⟨1, [false], [
  .ite (.cmp .eq (.ix (.var 0) (.int 0)) (.str "counted")) [
    .ret (.tup [.ix (.var 0) (.int 2), .ix (.var 0) (.int 3)])] [],
  .ret (.tup [.ite (.cmp .eq (.ix (.var 0) (.int 0)) (.str "exactly")) (.ix (.var 0) (.int 1)) (.int 0), .ix (.var 0) (.int 1)])]⟩
/- law_a_field: 0 tape_here 1 widths 2 most 3 width 4 signed -/
def F_law_a_field (I : Ix) : Fn := ⟨5, [true, false, false], [
  .asg 3 (.ix (.var 1) (.call I.law_draw [.var 0, .bi .len [.var 1]])),
  .asg 4 (.cmp .eq (.call I.law_draw [.var 0, .int 3]) (.int 0)),
  .ret (.tup [.var 3, .var 4, .call I.law_ranges [.var 0, .var 3, .var 4, .var 2]])]⟩
/- law_ranges: 0 tape_here 1 width 2 signed 3 most 4 span 5 at 6 numbers 7 k 8 lowest 9 number -/
def F_law_ranges (I : Ix) : Fn := ⟨10, [true, false, false, false], [
  .asg 4 (.bin .shl (.int 1) (.var 1)),
  .ite (.or (.cmp .gt (.var 1) (.int 8)) (.and (.or (.cmp .eq (.var 3) (.int 0)) (.cmp .le (.var 4) (.var 3))) (.cmp .eq (.call I.law_draw [.var 0, .int 2]) (.int 0)))) [
    .ret .non] [],
  .asg 5 (.call I.law_draw [.var 0, .var 4]),
  .asg 6 (.lst [.var 5]),
  .ite (.and (.cmp .eq (.var 3) (.int 0)) (.cmp .eq (.call I.law_draw [.var 0, .int 2]) (.int 0))) [
    .asg 6 (.lrng [.var 5, .bin .add (.bin .add (.var 5) (.int 1)) (.call I.law_draw [.var 0, .bin .sub (.var 4) (.var 5)])])] [],
  .for_ (.v 7) (.rng [.call I.law_draw [.var 0, .ite (.cmp .eq (.var 3) (.int 0)) (.int 4) (.bi .min [.var 3, .int 4])]]) [
    .asg 5 (.bin .mod (.bi .int [.bin .add (.var 5) (.ix (.lst [.int 1, .int 1, .int 2, .int 7, .bin .fdiv (.var 4) (.int 2), .bin .add (.int 1) (.bin .fdiv (.var 4) (.int 4))]) (.call I.law_draw [.var 0, .int 6]))]) (.var 4)),
    .ite (.cmp .notin (.var 5) (.var 6)) [
      .ex (.app 6 (.var 5))] []],
  .asg 8 (.ite (.var 2) (.bin .fdiv (.var 4) (.int 2)) (.int 0)),
  .ret (.call I.law_runs [.lc (.bin .sub (.var 9) (.var 8)) (.v 9) (.bi .sorted [.var 6]) [] [9]])]⟩
/- law_a_number: 0 tape_here 1 width 2 signed 3 ranges_here 4 pair 5 code -/
def F_law_a_number (I : Ix) : Fn := ⟨6, [true, false, false, false], [
  .ite (.cmp .isnot (.var 3) .non) [
    .asg 4 (.ix (.var 3) (.call I.law_draw [.var 0, .bi .len [.var 3]])),
    .ret (.bin .add (.ix (.var 4) (.int 0)) (.call I.law_draw [.var 0, .bin .add (.bin .sub (.ix (.var 4) (.int 1)) (.ix (.var 4) (.int 0))) (.int 1)]))] [],
  .asg 5 (.call I.law_draw [.var 0, .bin .shl (.int 1) (.bi .min [.var 1, .int 16])]),
  .ite (.cmp .gt (.var 1) (.int 16)) [
    .asg 5 (.bin .add (.bin .mul (.var 5) (.int 65536)) (.call I.law_draw [.var 0, .int 65536]))] [],
  .asg 5 (.bin .and (.ix (.lst [.int 0, .bin .sub (.bin .shl (.int 1) (.var 1)) (.int 1), .bin .shl (.int 1) (.bin .sub (.var 1) (.int 1)), .bin .and (.var 5) (.int 255), .var 5, .var 5]) (.call I.law_draw [.var 0, .int 6])) (.bin .sub (.bin .shl (.int 1) (.var 1)) (.int 1))),
  .ret (.ite (.and (.var 2) (.cmp .eq (.bin .shr (.var 5) (.bin .sub (.var 1) (.int 1))) (.int 1))) (.bin .sub (.var 5) (.bin .shl (.int 1) (.var 1))) (.var 5))]⟩
/- law_part: 0 tape_here 1 used 2 field 3 default -/
def F_law_part (I : Ix) : Fn := ⟨4, [true, true, false], [
  .ite (.cmp .eq (.call I.law_draw [.var 0, .int 5]) (.int 0)) [
    .ret (.tup [.non, .ix (.var 2) (.int 0), .bl false, .non, .non])] [],
  .ex (.app 1 (.call I.law_name [.var 0, .var 1])),
  .asg 3 (.ix (.lst [.non, .call I.law_a_number [.var 0, .ix (.var 2) (.int 0), .ix (.var 2) (.int 1), .ix (.var 2) (.int 2)]]) (.call I.law_draw [.var 0, .int 2])),
  .ret (.tup [.ix (.var 1) (.neg (.int 1)), .ix (.var 2) (.int 0), .ix (.var 2) (.int 1), .ix (.var 2) (.int 2), .var 3])]⟩
/- law_case_numbers: 0 tape_here 1 word 2 many 3 size_here 4 steps 5 step 6 base 7 k -/
def F_law_case_numbers (I : Ix) : Fn := ⟨8, [true, false, false], [
  .asg 3 (.call I.law_size [.var 1]),
  .asg 4 (.ix (.dic [Sum.inl 1, Sum.inl 2, Sum.inl 4] [.lst [.int 1, .int 255, .int 37, .int 2], .lst [.int 1, .int 256, .int 257, .int 65535], .lst [.int 1, .int 256, .int 65536, .int 16777216]]) (.var 3)),
  .asg 5 (.ix (.var 4) (.call I.law_draw [.var 0, .int 4])),
  .asg 6 (.bin .shl (.call I.law_draw [.var 0, .int 256]) (.bin .mul (.int 8) (.call I.law_draw [.var 0, .var 3]))),
  .ret (.lc (.bin .mod (.bi .int [.bin .add (.var 6) (.bin .mul (.var 7) (.var 5))]) (.bin .shl (.int 1) (.bin .mul (.int 8) (.var 3)))) (.v 7) (.rng [.var 2]) [] [7])]⟩
/- law_not_empty: 0 tape_here 1 items 2 item -/
def F_law_not_empty (I : Ix) : Fn := ⟨3, [true, false], [
  .ite (.lc (.var 2) (.v 2) (.var 1) [.cmp .in_ (.ix (.var 2) (.int 0)) (.tup [.str "word", .str "choice", .str "literal", .str "reserved", .str "check"])] [2]) [
    .ret (.var 1)] [],
  .ret (.bin .add (.var 1) (.tup [.tup [.str "literal", .tup [.call I.law_draw [.var 0, .int 256]]]]))]⟩
/- law_rich: 0 tape_here 1 depth 2 room 3 items 4 spent 5 used 6 k 7 told -/
def F_law_rich (I : Ix) : Fn := ⟨8, [true, false, false], [
  .asg 3 (.tup []),
  .asg 4 (.int 0),
  .asg 5 (.lst []),
  .for_ (.v 6) (.rng [.ite (.cmp .gt (.var 2) (.int 0)) (.ix (.lst [.int 2, .int 1, .int 2, .int 3, .int 4, .int 0, .ite (.cmp .gt (.var 1) (.int 2)) (.int 9) (.int 3)]) (.call I.law_draw [.var 0, .int 7])) (.int 0)]) [
    .asg 7 (.call I.law_rich_item [.var 0, .var 5, .var 1, .bin .sub (.var 2) (.var 4)]),
    .ite (.cmp .le (.bin .add (.var 4) (.ix (.var 7) (.int 1))) (.var 2)) [
      .asg 3 (.bin .add (.var 3) (.tup [.ix (.var 7) (.int 0)])),
      .asg 4 (.bin .add (.var 4) (.ix (.var 7) (.int 1)))] []],
  .ret (.tup [.var 3, .var 4])]⟩
/- law_rich_item: 0 tape_here 1 used 2 depth 3 room 4 sort 5 told 6 greatest 7 count 8 field 9 word 10 default -/
def F_law_rich_item (I : Ix) : Fn := ⟨11, [true, true, false, false], [
  .asg 4 (.call I.law_draw [.var 0, .int 10]),
  .ite (.cmp .lt (.var 4) (.int 2)) [
    .ret (.call I.law_fixed [.var 0])] [],
  .ite (.or (.cmp .lt (.var 4) (.int 5)) (.and (.cmp .gt (.var 4) (.int 5)) (.cmp .eq (.var 2) (.int 0)))) [
    .ret (.tup [.call I.law_rich_word [.var 0, .var 1], .int 8])] [],
  .ex (.app 1 (.call I.law_name [.var 0, .var 1])),
  .ite (.cmp .eq (.var 4) (.int 9)) [
    .asg 5 (.call I.law_rich [.var 0, .bin .sub (.var 2) (.int 1), .bin .sub (.var 3) (.int 1)]),
    .ret (.tup [.tup [.str "record", .ix (.var 1) (.neg (.int 1)), .ix (.var 5) (.int 0)], .bin .add (.ix (.var 5) (.int 1)) (.int 1)])] [],
  .ite (.and (.cmp .eq (.var 4) (.int 8)) (.cmp .gt (.var 3) (.int 5))) [
    .ret (.call I.law_rich_choice [.var 0, .ix (.var 1) (.neg (.int 1)), .var 2, .var 3])] [],
  .asg 6 (.ix (.lst [.int 1, .int 2, .int 3, .bin .add (.int 1) (.call I.law_draw [.var 0, .int 60])]) (.call I.law_draw [.var 0, .int 4])),
  .asg 7 (.call I.law_a_count [.var 0, .ix (.lst [.int 0, .var 6, .call I.law_draw [.var 0, .bin .add (.var 6) (.int 1)]]) (.call I.law_draw [.var 0, .int 3]), .var 6]),
  .ite (.cmp .eq (.var 4) (.int 5)) [
    .asg 8 (.call I.law_a_field [.var 0, .lst [.int 8, .int 8, .int 16, .int 32], .int 0]),
    .asg 9 (.ix (.ix (.dic [Sum.inl 8, Sum.inl 16, Sum.inl 32] [.lst [.str "u8", .str "u8"], .lst [.str "u16be", .str "u16le"], .lst [.str "u32be", .str "u32le"]]) (.ix (.var 8) (.int 0))) (.call I.law_draw [.var 0, .int 2])),
    .asg 10 (.ix (.lst [.non, .call I.law_a_number [.var 0, .ix (.var 8) (.int 0), .ix (.var 8) (.int 1), .ix (.var 8) (.int 2)]]) (.call I.law_draw [.var 0, .int 2])),
    .ret (.tup [.tup [.str "array", .ix (.var 1) (.neg (.int 1)), .var 9, .ix (.var 8) (.int 1), .var 7, .ix (.var 8) (.int 2), .var 10], .bin .add (.int 5) (.bin .mul (.int 5) (.var 6))])] [],
  .asg 5 (.call I.law_rich [.var 0, .bin .sub (.var 2) (.int 1), .bin .sub (.bin .fdiv (.bin .sub (.var 3) (.int 5)) (.var 6)) (.int 2)]),
  .ret (.tup [.tup [.str "list", .ix (.var 1) (.neg (.int 1)), .var 7, .call I.law_not_empty [.var 0, .ix (.var 5) (.int 0)]], .bin .add (.int 5) (.bin .mul (.var 6) (.bin .add (.ix (.var 5) (.int 1)) (.int 2)))])]⟩
/- law_fixed: 0 tape_here 1 share 2 many 3 k -/
def F_law_fixed (I : Ix) : Fn := ⟨4, [true], [
  .asg 1 (.call I.law_draw [.var 0, .int 6]),
  .asg 2 (.ix (.lst [.int 1, .int 2, .int 3, .bin .add (.int 1) (.call I.law_draw [.var 0, .int 60])]) (.call I.law_draw [.var 0, .int 4])),
  .ite (.cmp .lt (.var 1) (.int 2)) [
    .ret (.tup [.tup [.str "check", .ix (.lst [.str "sum", .str "xor"]) (.var 1)], .int 1])] [],
  .ite (.cmp .eq (.var 1) (.int 2)) [
    .ret (.tup [.tup [.str "reserved", .var 2], .var 2])] [],
  .ite (.cmp .eq (.var 1) (.int 3)) [
    .ret (.tup [.tup [.str "word", .str "u8", .tup [.tup [.non, .int 3, .bl false, .non, .non], .tup [.non, .int 5, .bl false, .non, .non]]], .int 3])] [],
  .ret (.tup [.tup [.str "literal", .bi .tuple [.lc (.call I.law_draw [.var 0, .int 256]) (.v 3) (.rng [.var 2]) [] [3]]], .var 2])]⟩
/- law_rich_word: 0 tape_here 1 used 2 word 3 left 4 parts 5 k 6 widths 7 width -/
def F_law_rich_word (I : Ix) : Fn := ⟨8, [true, true], [
  .asg 2 (.call I.law_any_word [.var 0]),
  .asg 3 (.bin .mul (.int 8) (.call I.law_size [.var 2])),
  .asg 4 (.tup []),
  .for_ (.v 5) (.rng [.ix (.lst [.int 1, .int 1, .int 2, .int 5]) (.call I.law_draw [.var 0, .int 4])]) [
    .ite (.cmp .gt (.var 3) (.int 0)) [
      .asg 6 (.lc (.var 7) (.v 7) (.lst [.var 3, .int 8, .int 1, .int 2, .int 3, .int 5, .int 12, .var 3]) [.cmp .le (.var 7) (.var 3)] [7]),
      .asg 4 (.bin .add (.var 4) (.tup [.call I.law_part [.var 0, .var 1, .call I.law_a_field [.var 0, .var 6, .int 0]]])),
      .asg 3 (.bin .sub (.var 3) (.ix (.ix (.var 4) (.neg (.int 1))) (.int 1)))] []],
  .ite (.cmp .gt (.var 3) (.int 0)) [
    .asg 4 (.bin .add (.var 4) (.tup [.tup [.non, .var 3, .bl false, .non, .non]]))] [],
  .ret (.tup [.str "word", .var 2, .var 4])]⟩
/- law_rich_choice: 0 tape_here 1 name_here 2 depth 3 room 4 word 5 many 6 alike 7 told 8 cases 9 names 10 spent 11 number -/
def F_law_rich_choice (I : Ix) : Fn := ⟨12, [true, false, false, false], [
  .asg 4 (.call I.law_any_word [.var 0]),
  .asg 5 (.ix (.lst [.int 1, .int 2, .int 3, .ite (.cmp .gt (.var 2) (.int 2)) (.int 9) (.int 6)]) (.call I.law_draw [.var 0, .int 4])),
  .asg 6 (.cmp .eq (.call I.law_draw [.var 0, .int 3]) (.int 0)),
  .asg 7 (.call I.law_rich [.var 0, .bin .sub (.var 2) (.int 1), .bin .sub (.bin .fdiv (.bin .sub (.var 3) (.int 5)) (.var 5)) (.int 1)]),
  .asg 8 (.tup []),
  .asg 9 (.lst []),
  .asg 10 (.int 5),
  .for_ (.v 11) (.call I.law_case_numbers [.var 0, .var 4, .var 5]) [
    .ex (.app 9 (.call I.law_name [.var 0, .var 9])),
    .asg 8 (.bin .add (.var 8) (.tup [.tup [.var 11, .ix (.var 9) (.neg (.int 1)), .ix (.var 7) (.int 0)]])),
    .asg 10 (.bin .add (.bin .add (.var 10) (.int 1)) (.ix (.var 7) (.int 1))),
    .asg 7 (.ite (.var 6) (.tup [.rev (.ix (.var 7) (.int 0)), .ix (.var 7) (.int 1)]) (.call I.law_rich [.var 0, .bin .sub (.var 2) (.int 1), .bin .sub (.bin .fdiv (.bin .sub (.var 3) (.int 5)) (.var 5)) (.int 1)]))],
  .ret (.tup [.tup [.str "choice", .var 1, .var 4, .var 8], .var 10])]⟩
structure Rich (P : Prg) (I : Ix) : Prop where
  law_tape : P.fns[I.law_tape]? = some (F_law_tape I)
  law_draw : P.fns[I.law_draw]? = some (F_law_draw I)
  law_name : P.fns[I.law_name]? = some (F_law_name I)
  law_runs : P.fns[I.law_runs]? = some (F_law_runs I)
  law_size : P.fns[I.law_size]? = some (F_law_size I)
  law_any_word : P.fns[I.law_any_word]? = some (F_law_any_word I)
  law_a_count : P.fns[I.law_a_count]? = some (F_law_a_count I)
  law_a_field : P.fns[I.law_a_field]? = some (F_law_a_field I)
  law_ranges : P.fns[I.law_ranges]? = some (F_law_ranges I)
  law_a_number : P.fns[I.law_a_number]? = some (F_law_a_number I)
  law_part : P.fns[I.law_part]? = some (F_law_part I)
  law_case_numbers : P.fns[I.law_case_numbers]? = some (F_law_case_numbers I)
  law_not_empty : P.fns[I.law_not_empty]? = some (F_law_not_empty I)
  law_rich : P.fns[I.law_rich]? = some (F_law_rich I)
  law_rich_item : P.fns[I.law_rich_item]? = some (F_law_rich_item I)
  law_fixed : P.fns[I.law_fixed]? = some (F_law_fixed I)
  law_rich_word : P.fns[I.law_rich_word]? = some (F_law_rich_word I)
  law_rich_choice : P.fns[I.law_rich_choice]? = some (F_law_rich_choice I)
theorem Rich.io_law_tape {P : Prg} {I : Ix} (H : Rich P I) : P.io I.law_tape = [false] := io_of H.law_tape
theorem Rich.io_law_draw {P : Prg} {I : Ix} (H : Rich P I) : P.io I.law_draw = [true, false] := io_of H.law_draw
theorem Rich.io_law_name {P : Prg} {I : Ix} (H : Rich P I) : P.io I.law_name = [true, true] := io_of H.law_name
theorem Rich.io_law_runs {P : Prg} {I : Ix} (H : Rich P I) : P.io I.law_runs = [false] := io_of H.law_runs
theorem Rich.io_law_size {P : Prg} {I : Ix} (H : Rich P I) : P.io I.law_size = [false] := io_of H.law_size
theorem Rich.io_law_any_word {P : Prg} {I : Ix} (H : Rich P I) : P.io I.law_any_word = [true] := io_of H.law_any_word
theorem Rich.io_law_a_count {P : Prg} {I : Ix} (H : Rich P I) : P.io I.law_a_count = [true, false, false] := io_of H.law_a_count
theorem Rich.io_law_a_field {P : Prg} {I : Ix} (H : Rich P I) : P.io I.law_a_field = [true, false, false] := io_of H.law_a_field
theorem Rich.io_law_ranges {P : Prg} {I : Ix} (H : Rich P I) : P.io I.law_ranges = [true, false, false, false] := io_of H.law_ranges
theorem Rich.io_law_a_number {P : Prg} {I : Ix} (H : Rich P I) : P.io I.law_a_number = [true, false, false, false] := io_of H.law_a_number
theorem Rich.io_law_part {P : Prg} {I : Ix} (H : Rich P I) : P.io I.law_part = [true, true, false] := io_of H.law_part
theorem Rich.io_law_case_numbers {P : Prg} {I : Ix} (H : Rich P I) : P.io I.law_case_numbers = [true, false, false] := io_of H.law_case_numbers
theorem Rich.io_law_not_empty {P : Prg} {I : Ix} (H : Rich P I) : P.io I.law_not_empty = [true, false] := io_of H.law_not_empty
theorem Rich.io_law_rich {P : Prg} {I : Ix} (H : Rich P I) : P.io I.law_rich = [true, false, false] := io_of H.law_rich
theorem Rich.io_law_rich_item {P : Prg} {I : Ix} (H : Rich P I) : P.io I.law_rich_item = [true, true, false, false] := io_of H.law_rich_item
theorem Rich.io_law_fixed {P : Prg} {I : Ix} (H : Rich P I) : P.io I.law_fixed = [true] := io_of H.law_fixed
theorem Rich.io_law_rich_word {P : Prg} {I : Ix} (H : Rich P I) : P.io I.law_rich_word = [true, true] := io_of H.law_rich_word
theorem Rich.io_law_rich_choice {P : Prg} {I : Ix} (H : Rich P I) : P.io I.law_rich_choice = [true, false, false, false] := io_of H.law_rich_choice
theorem Rich.draw {P : Prg} {I : Ix} (H : Rich P I) {wn kk : Nat} (hk : 0 < kk) {xs : List D} (h : Tp xs) (m : Int) (hm : m < 18446744073709551616) :
    ∃ (r : Int) (ys : List D), callF P wn kk I.law_draw [.own xs, .val (.int m)] = .ok (.val (.int r)) [.own ys, .un] ∧ Tp ys ∧ 0 ≤ r ∧ (1 ≤ m → r < m) ∧ (m ≤ 1 → r = 0) :=
  drawA (i := I.law_draw) H.law_draw hk h m (by omega)
/-! ### data -/
inductive Wd where
  | u8 | u16be | u16le | u32be | u32le
def Wd.s : Wd → String
  | .u8 => "u8" | .u16be => "u16be" | .u16le => "u16le" | .u32be => "u32be" | .u32le => "u32le"
def Wd.str (w : Wd) : Str := Str.ofString w.s
def Wd.sz : Wd → Int
  | .u8 => 1 | .u16be => 2 | .u16le => 2 | .u32be => 4 | .u32le => 4
abbrev Rs := List (Int × Int)
def oD {α : Type} (f : α → D) : Option α → D
  | none => .non
  | some a => f a
def prD (p : Int × Int) : D := .tup [.int p.1, .int p.2]
def rsD (r : Option Rs) : D := oD (fun l => .tup (l.map prD)) r
structure Part where
  nm : Option Str
  w : Int
  sg : Bool
  rs : Option Rs
  df : Option Int
def Part.d (p : Part) : D := .tup [oD .str p.nm, .int p.w, .bl p.sg, rsD p.rs, oD .int p.df]
inductive Cnt where
  | exactly (n : Int) | marked (n : Int) | counted (w : Wd) (lo hi : Int)
def Cnt.d : Cnt → D
  | .exactly n => .tup [.str (Str.ofString "exactly"), .int n]
  | .marked n => .tup [.str (Str.ofString "marked"), .int n]
  | .counted w lo hi => .tup [.str (Str.ofString "counted"), .str w.str, .int lo, .int hi]
mutual
inductive Item where
  | word (w : Wd) (ps : List Part)
  | lit (bs : List Int)
  | res (n : Int)
  | chk (x : Bool)
  | arr (nm : Str) (w : Wd) (sg : Bool) (c : Cnt) (rs : Option Rs) (df : Option Int)
  | lst (nm : Str) (c : Cnt) (its : List Item)
  | cho (nm : Str) (w : Wd) (cs : List Case)
  | rcd (nm : Str) (its : List Item)
inductive Case where
  | mk (n : Int) (nm : Str) (its : List Item)
end
mutual
def Item.d : Item → D
  | .word w ps => .tup [.str (Str.ofString "word"), .str w.str, .tup (ps.map Part.d)]
  | .lit bs => .tup [.str (Str.ofString "literal"), .tup (bs.map D.int)]
  | .res n => .tup [.str (Str.ofString "reserved"), .int n]
  | .chk x => .tup [.str (Str.ofString "check"), .str (if x then Str.ofString "xor" else Str.ofString "sum")]
  | .arr nm w sg c rs df => .tup [.str (Str.ofString "array"), .str nm, .str w.str, .bl sg, c.d, rsD rs, oD .int df]
  | .lst nm c its => .tup [.str (Str.ofString "list"), .str nm, c.d, .tup (Item.ds its)]
  | .cho nm w cs => .tup [.str (Str.ofString "choice"), .str nm, .str w.str, .tup (Case.ds cs)]
  | .rcd nm its => .tup [.str (Str.ofString "record"), .str nm, .tup (Item.ds its)]
def Item.ds : List Item → List D
  | [] => []
  | i :: r => i.d :: Item.ds r
def Case.d : Case → D
  | .mk n nm its => .tup [.int n, .str nm, .tup (Item.ds its)]
def Case.ds : List Case → List D
  | [] => []
  | c :: r => c.d :: Case.ds r
end
theorem Item.ds_map : ∀ its : List Item, Item.ds its = its.map Item.d
  | [] => rfl
  | i :: r => by rw [Item.ds, Item.ds_map r]; rfl
theorem Case.ds_map : ∀ its : List Case, Case.ds its = its.map Case.d
  | [] => rfl
  | i :: r => by rw [Case.ds, Case.ds_map r]; rfl
def lay (its : List Item) : D := .tup (its.map Item.d)
def Case.n : Case → Int
  | .mk n _ _ => n
def Case.nm : Case → Str
  | .mk _ nm _ => nm
def Case.its : Case → List Item
  | .mk _ _ its => its
/-! ### how many facts there are at most -/
def Cnt.hi : Cnt → Int
  | .exactly n => n
  | .marked n => n
  | .counted _ _ h => h
def Cnt.lo : Cnt → Int
  | .exactly n => n
  | .marked _ => 0
  | .counted _ l _ => l
mutual
def Item.wt : Item → Nat
  | .word _ ps => ps.length
  | .arr _ _ _ c _ _ => 1 + c.hi.toNat
  | .lst _ c its => 1 + c.hi.toNat * Item.wts its
  | .cho _ _ cs => 1 + Case.wts cs
  | .rcd _ its => Item.wts its
  | .lit _ => 0
  | .res _ => 0
  | .chk _ => 0
def Item.wts : List Item → Nat
  | [] => 0
  | i :: r => i.wt + Item.wts r
def Case.wt : Case → Nat
  | .mk _ _ its => Item.wts its
def Case.wts : List Case → Nat
  | [] => 0
  | c :: r => c.wt + Case.wts r
end
theorem Item.wts_snoc : ∀ (l : List Item) (i : Item), Item.wts (l ++ [i]) = Item.wts l + i.wt
  | [], i => by simp only [List.nil_append, Item.wts]; omega
  | a :: l, i => by simp only [List.cons_append, Item.wts, Item.wts_snoc l i]; omega
theorem Case.wts_snoc : ∀ (l : List Case) (i : Case), Case.wts (l ++ [i]) = Case.wts l + i.wt
  | [], i => by simp only [List.nil_append, Case.wts]; omega
  | a :: l, i => by simp only [List.cons_append, Case.wts, Case.wts_snoc l i]; omega
theorem Item.wts_rev : ∀ l : List Item, Item.wts l.reverse = Item.wts l
  | [] => rfl
  | a :: l => by rw [List.reverse_cons, Item.wts_snoc, Item.wts_rev l, Item.wts]; omega
/-! ### what is allowed -/
def NmOk (x : Str) : Prop := PyData.strOk x = true ∧ x.length ≤ 40 ∧ 0 < x.length
/-- runs of a row of numbers -/
def runS (l : Rs) (n : Int) : Rs := match l.getLast? with
  | some p => if p.2 = n - 1 then l.dropLast ++ [(p.1, n)] else l ++ [(n, n)]
  | none => [(n, n)]
def runsV (ns : List Int) : Rs := ns.foldl runS []
def fLo (w : Int) (sg : Bool) : Int := if sg then -(2 ^ (w - 1).toNat) else 0
def fHi (w : Int) (sg : Bool) : Int := if sg then 2 ^ (w - 1).toNat else 2 ^ w.toNat
def RsOk (w : Int) (sg : Bool) (rs : Option Rs) : Prop := ∀ l, rs = some l → w ≤ 8 ∧ ∃ ns : List Int, ns ≠ [] ∧ ns.length ≤ 300 ∧ ns.Pairwise (· < ·) ∧ (∀ n ∈ ns, fLo w sg ≤ n ∧ n < fHi w sg) ∧ l = runsV ns
def Alw (w : Int) (sg : Bool) (rs : Option Rs) (n : Int) : Prop := match rs with
  | some l => ∃ p ∈ l, p.1 ≤ n ∧ n ≤ p.2
  | none => fLo w sg ≤ n ∧ n < fHi w sg
def DfOk (w : Int) (sg : Bool) (rs : Option Rs) (df : Option Int) : Prop := ∀ i, df = some i → Alw w sg rs i ∧ -4294967296 ≤ i ∧ i ≤ 4294967296
def Part.ok (p : Part) : Prop := (∀ x, p.nm = some x → NmOk x) ∧ 1 ≤ p.w ∧ p.w ≤ 32 ∧ RsOk p.w p.sg p.rs ∧ DfOk p.w p.sg p.rs p.df
def wsum (ps : List Part) : Int := (ps.map Part.w).sum
def Cnt.ok : Cnt → Prop
  | .exactly n => 1 ≤ n ∧ n ≤ 60
  | .marked n => 1 ≤ n ∧ n ≤ 60
  | .counted _ lo hi => 0 ≤ lo ∧ lo ≤ hi ∧ 1 ≤ hi ∧ hi ≤ 60
def Item.ok (L : List Item → Prop) : Item → Prop
  | .word w ps => ps.length ≤ 32 ∧ (∀ p ∈ ps, p.ok) ∧ wsum ps = 8 * w.sz
  | .lit bs => bs.length ≤ 60 ∧ 1 ≤ bs.length ∧ ∀ b ∈ bs, 0 ≤ b ∧ b < 256
  | .res n => 1 ≤ n ∧ n ≤ 60
  | .chk _ => True
  | .arr nm w sg c rs df => NmOk nm ∧ c.ok ∧ RsOk (8 * w.sz) sg rs ∧ DfOk (8 * w.sz) sg rs df
  | .lst nm c its => NmOk nm ∧ c.ok ∧ L its
  | .cho nm w cs => NmOk nm ∧ (cs ≠ [] ∧ (cs.map Case.nm).Nodup) ∧ cs.length ≤ 9 ∧ ∀ c ∈ cs, 0 ≤ c.n ∧ c.n < 4294967296 ∧ NmOk c.nm ∧ L c.its
  | .rcd nm its => NmOk nm ∧ L its
def Lay : Nat → List Item → Prop
  | 0 => fun its => its.length ≤ 10 ∧ ∀ i ∈ its, i.ok (fun _ => False)
  | n + 1 => fun its => its.length ≤ 10 ∧ ∀ i ∈ its, i.ok (Lay n)
theorem Item.ok.mono {L M : List Item → Prop} (h : ∀ its, L its → M its) : ∀ {i : Item}, i.ok L → i.ok M
  | .word _ _, q => q
  | .lit _, q => q
  | .res _, q => q
  | .chk _, q => q
  | .arr _ _ _ _ _ _, q => q
  | .lst _ _ _, q => ⟨q.1, q.2.1, h _ q.2.2⟩
  | .cho _ _ _, q => ⟨q.1, q.2.1, q.2.2.1, fun c hc => ⟨(q.2.2.2 c hc).1, (q.2.2.2 c hc).2.1, (q.2.2.2 c hc).2.2.1, h _ (q.2.2.2 c hc).2.2.2⟩⟩
  | .rcd _ _, q => ⟨q.1, h _ q.2⟩
theorem Lay.up : ∀ {n : Nat} {its : List Item}, Lay n its → Lay (n + 1) its
  | 0, its, h => ⟨h.1, fun i hi => (h.2 i hi).mono fun _ q => q.elim⟩
  | n + 1, its, h => ⟨h.1, fun i hi => (h.2 i hi).mono fun _ q => Lay.up q⟩
end MP

/-! MP: rich layouts: names, words, counts. -/
namespace MP
open PySem L2
local macro_rules | `(tactic| wp_walk) => `(tactic| simp -implicitDefEqProofs (disch := first | assumption | omega | (simp only [List.length_cons, List.length_nil, List.length_map, List.length_append]; omega)) only [MP.bnd_ap, MP.bX_ok, MP.thenS_ap, MP.tX_ok, MP.seqS_nx, MP.seqS_rt, MP.seqS_bk, MP.seqS_ct, MP.ret_ap, MP.opt_some, MP.when_true, MP.evB_nil, MP.evB_cons, MP.evS_asg, MP.evS_asgT, MP.evS_aug, MP.evS_setix, MP.evS_par, MP.sets_nil, MP.sets_cons, MP.evS_ex, MP.evS_ite, MP.evS_for, MP.evS_whl, MP.evS_ret, MP.evS_retN, MP.evS_brk, MP.evS_cont, MP.evS_pass, MP.selS_true, MP.selS_false, MP.selM_true, MP.selM_false, MP.slK_ap, MP.itK_ap, MP.tru_ap, MP.fz_ap, MP.var_v, MP.var_t, MP.var_o, MP.var_i, MP.int_v, MP.int_o, MP.str_v, MP.str_o, MP.bl_v, MP.bl_o, MP.bl_t, MP.non_v, MP.non_o, MP.glo_v, MP.glo_o, MP.glo_i, MP.tup_v, MP.tup_o, MP.tup_i, MP.lst_v, MP.lst_o, MP.lst_i, MP.bin_v, MP.bin_o, MP.bin_t, MP.bin_i, MP.negK_int, MP.neg_v, MP.neg_o, MP.not_v, MP.not_t, MP.not_o, MP.isB_bl, MP.and_v, MP.and_t, MP.and_o, MP.or_v, MP.or_t, MP.or_o, MP.cmp_t, MP.cmp_v, MP.cmp_o, MP.cmp2_t, MP.cmp2_v, MP.cmp2_o, MP.ite_v, MP.ite_o, MP.ite_i, MP.kix_v, MP.kix_o, MP.ix_v, MP.ix_o, MP.ix_t, MP.ix_i, MP.sl_v, MP.sl_o, MP.sl_i, MP.rev_v, MP.rev_o, MP.rev_i, MP.revK_t, MP.revK_l, MP.call_v, MP.call_o, MP.call_t, MP.call_i, MP.bi_v, MP.bi_o, MP.bi_t, MP.bi_i, MP.isi_v, MP.isi_o, MP.isi_t, MP.app_v, MP.ext_v, MP.pop_v, MP.pop_o, MP.revm_v, MP.rng_i, MP.dic_v, MP.dic_o, MP.lrng_v, MP.lrng_o, MP.lrng_i, MP.enu_i, MP.lc_v, MP.lc_o, MP.lc_i, MP.evs_nil, MP.evs_cons, MP.vals_nil, MP.vals_cons, MP.opds_nil, MP.opds_cons, MP.rdOs_nil, MP.rdOs_cons, MP.args_nil, MP.args_t, MP.args_f, MP.rdO_at, MP.rdO_sl, MP.d_val, MP.d_own, MP.d_lk, MP.opAt_ap, MP.opAtS_val, MP.opAtS_own, MP.opAtS_lk, MP.cap_ap, MP.capS_some, MP.retV_var, MP.retS_own, MP.retS_val, MP.ownAt_ap, MP.ownS_own, MP.chg_ap, MP.chgS_own, MP.chgO_some, MP.setAt_int, MP.itO_at', MP.itS_own, MP.itS_val, MP.itO_sl', MP.part_nil, MP.part_cons, MP.partK_int, MP.extK_lst, MP.callM_ap, MP.endC_ok, MP.takes_nil, MP.takes_at, MP.takes_sl, MP.backs_at, MP.backs_sl, MP.backs_nil, MP.lent_t, MP.lent_f, MP.lent_n, MP.endF_rt, MP.endF_nx, MP.onFr_nx, MP.onFr_rt, MP.unlk_nil, MP.retV_int, MP.retV_str, MP.retV_bl, MP.retV_non, MP.retV_glo, MP.retV_tup, MP.retV_lst, MP.retV_dic, MP.retV_bin, MP.retV_neg, MP.retV_not, MP.retV_and, MP.retV_or, MP.retV_cmp, MP.retV_cmp2, MP.retV_ite, MP.retV_kix, MP.retV_ix, MP.retV_sl, MP.retV_rev, MP.retV_call, MP.retV_bi, MP.retV_isi, MP.retV_mt, MP.retV_pop, MP.retV_lrng, MP.retV_lc, MP.retV_fs, MP.sl0, MP.sl1, MP.sl2, MP.sl3, MP.sl4, MP.sl5, MP.sl6, MP.sl7, MP.sl8, MP.sl9, MP.sl10, MP.sl11, MP.set0, MP.set1, MP.set2, MP.set3, MP.set4, MP.set5, MP.set6, MP.set7, MP.set8, MP.set9, MP.set10, MP.set11, MP.add_i, MP.sub_i, MP.pow_i, MP.and_i, MP.or_i, MP.xor_i, MP.eq_i, MP.ne_i, MP.lt_i, MP.le_i, MP.gt_i, MP.ge_i, MP.eq_s, MP.ne_s, MP.ix_l, MP.ix_t', MP.len_l, MP.len_t, MP.abs_i, MP.int_i, MP.max_i, MP.min_i, MP.list_l, MP.list_t, MP.list_s, MP.tuple_l, MP.omap_some, MP.obind_some, decide_true, decide_false, MP.tr_bl, MP.isi_ii, MP.isi_ib, MP.turnO_ap, MP.asgT_v, MP.asgT_tup, MP.asgTs_nil, MP.asgTs_cons, MP.forK_ap, MP.lcM_ap, MP.lcStep_ap, MP.wipeF_nil, MP.wipeF_cons, MP.putF_nil, MP.putF_cons, MP.ifsM_nil, MP.ifsM_cons, MP.seqI_l, MP.seqI_t, MP.seqI_s, MP.sEq, MP.atI_0, MP.atI_1, MP.atI_2, MP.atI_3, MP.atI_4, MP.atI_5, MP.atI_6, MP.atI_mapp, MP.atI_m1, MP.sz_if, MP.dlt_t, MP.dlt_f, MP.dle_t, MP.dle_f, MP.beq_t, MP.beq_f, MP.bne_t, MP.bne_f, MP.mul_okr, MP.mul_okl, MP.fdiv_ok, MP.mod_ok, MP.shl1_ok, MP.shl_ok, MP.shr_ok, MP.add_t, MP.add_lo, MP.add_so, MP.app_ok, MP.ext_ok, MP.rng1_ok, MP.rng2_ok, MP.eq_n, MP.ne_n, MP.isN_n, MP.isN_i, MP.isN_s, MP.isN_t, MP.isN_l, MP.isN_b, MP.tr_t, MP.tr_l, MP.tr_i, MP.kix_s, MP.look_c, MP.look_n, MP.ixd, MP.key_i, MP.key_s, MP.dl_c, MP.sum_ii, MP.sum_ss, MP.isi_tt, MP.isi_tl, MP.isi_ts, MP.isi_tb, MP.isi_ti, MP.isi_ll, MP.isi_lt, MP.isi_ss, MP.isi_st, MP.isi_sl, MP.isi_sb, MP.isi_si, MP.isi_is, MP.isi_it, MP.isi_il, MP.isi_bb, MP.isi_bi, MP.isi_bt, MP.isi_blx, MP.isi_nt, MP.isi_nl, MP.isi_nb, MP.isi_ni, MP.isi_ns, MP.eq_b, MP.sl12, MP.sl13, MP.sl14, MP.set12, MP.set13, MP.set14, MP.lc_t, MP.part_mn, MP.part_mc, MP.enuOk_l, MP.enuOk_t, MP.zip_i, MP.zipV_ll, MP.zipV_lt, MP.zipV_tl, MP.zipV_tt, MP.fs_v, MP.fs_o, MP.fsM_n, MP.fsM_c, MP.strOf_s, MP.sl_t, MP.sl_l, MP.mt_v, MP.mt_o, MP.mt_t, MP.mt_i, MP.ty_split, MP.ty_endswith, MP.ty_startswith, MP.ty_join, MP.ty_index, MP.ty_get, MP.csat_ok, MP.tsat_nx, MP.tsat_ct, MP.unlk_c, ↓reduceIte, String.reduceEq, Int.reduceEq, Int.reduceLT, Int.reduceLE, Int.reduceAdd, Int.reduceSub, Int.reduceMul, Int.reduceNeg, Int.reduceToNat, Nat.reduceAdd, Nat.reduceSub, List.length_cons, List.length_nil, Int.one_mul, Bool.not_true, Bool.not_false, Bool.and_true, Bool.true_and, Bool.and_false, Bool.false_and, Bool.or_true, Bool.true_or, Bool.or_false, Bool.false_or, List.isEmpty_cons, List.isEmpty_nil, List.cons_append, List.nil_append, List.append_nil, MP.Rich.io_law_tape, MP.Rich.io_law_draw, MP.Rich.io_law_name, MP.Rich.io_law_runs, MP.Rich.io_law_size, MP.Rich.io_law_any_word, MP.Rich.io_law_a_count, MP.Rich.io_law_a_field, MP.Rich.io_law_ranges, MP.Rich.io_law_a_number, MP.Rich.io_law_part, MP.Rich.io_law_case_numbers, MP.Rich.io_law_not_empty, MP.Rich.io_law_rich, MP.Rich.io_law_rich_item, MP.Rich.io_law_fixed, MP.Rich.io_law_rich_word, MP.Rich.io_law_rich_choice])
local macro_rules | `(tactic| wp_walk using $ts:term,*) => `(tactic| simp -implicitDefEqProofs (disch := first | assumption | omega | (simp only [List.length_cons, List.length_nil, List.length_map, List.length_append]; omega)) only [MP.bnd_ap, MP.bX_ok, MP.thenS_ap, MP.tX_ok, MP.seqS_nx, MP.seqS_rt, MP.seqS_bk, MP.seqS_ct, MP.ret_ap, MP.opt_some, MP.when_true, MP.evB_nil, MP.evB_cons, MP.evS_asg, MP.evS_asgT, MP.evS_aug, MP.evS_setix, MP.evS_par, MP.sets_nil, MP.sets_cons, MP.evS_ex, MP.evS_ite, MP.evS_for, MP.evS_whl, MP.evS_ret, MP.evS_retN, MP.evS_brk, MP.evS_cont, MP.evS_pass, MP.selS_true, MP.selS_false, MP.selM_true, MP.selM_false, MP.slK_ap, MP.itK_ap, MP.tru_ap, MP.fz_ap, MP.var_v, MP.var_t, MP.var_o, MP.var_i, MP.int_v, MP.int_o, MP.str_v, MP.str_o, MP.bl_v, MP.bl_o, MP.bl_t, MP.non_v, MP.non_o, MP.glo_v, MP.glo_o, MP.glo_i, MP.tup_v, MP.tup_o, MP.tup_i, MP.lst_v, MP.lst_o, MP.lst_i, MP.bin_v, MP.bin_o, MP.bin_t, MP.bin_i, MP.negK_int, MP.neg_v, MP.neg_o, MP.not_v, MP.not_t, MP.not_o, MP.isB_bl, MP.and_v, MP.and_t, MP.and_o, MP.or_v, MP.or_t, MP.or_o, MP.cmp_t, MP.cmp_v, MP.cmp_o, MP.cmp2_t, MP.cmp2_v, MP.cmp2_o, MP.ite_v, MP.ite_o, MP.ite_i, MP.kix_v, MP.kix_o, MP.ix_v, MP.ix_o, MP.ix_t, MP.ix_i, MP.sl_v, MP.sl_o, MP.sl_i, MP.rev_v, MP.rev_o, MP.rev_i, MP.revK_t, MP.revK_l, MP.call_v, MP.call_o, MP.call_t, MP.call_i, MP.bi_v, MP.bi_o, MP.bi_t, MP.bi_i, MP.isi_v, MP.isi_o, MP.isi_t, MP.app_v, MP.ext_v, MP.pop_v, MP.pop_o, MP.revm_v, MP.rng_i, MP.dic_v, MP.dic_o, MP.lrng_v, MP.lrng_o, MP.lrng_i, MP.enu_i, MP.lc_v, MP.lc_o, MP.lc_i, MP.evs_nil, MP.evs_cons, MP.vals_nil, MP.vals_cons, MP.opds_nil, MP.opds_cons, MP.rdOs_nil, MP.rdOs_cons, MP.args_nil, MP.args_t, MP.args_f, MP.rdO_at, MP.rdO_sl, MP.d_val, MP.d_own, MP.d_lk, MP.opAt_ap, MP.opAtS_val, MP.opAtS_own, MP.opAtS_lk, MP.cap_ap, MP.capS_some, MP.retV_var, MP.retS_own, MP.retS_val, MP.ownAt_ap, MP.ownS_own, MP.chg_ap, MP.chgS_own, MP.chgO_some, MP.setAt_int, MP.itO_at', MP.itS_own, MP.itS_val, MP.itO_sl', MP.part_nil, MP.part_cons, MP.partK_int, MP.extK_lst, MP.callM_ap, MP.endC_ok, MP.takes_nil, MP.takes_at, MP.takes_sl, MP.backs_at, MP.backs_sl, MP.backs_nil, MP.lent_t, MP.lent_f, MP.lent_n, MP.endF_rt, MP.endF_nx, MP.onFr_nx, MP.onFr_rt, MP.unlk_nil, MP.retV_int, MP.retV_str, MP.retV_bl, MP.retV_non, MP.retV_glo, MP.retV_tup, MP.retV_lst, MP.retV_dic, MP.retV_bin, MP.retV_neg, MP.retV_not, MP.retV_and, MP.retV_or, MP.retV_cmp, MP.retV_cmp2, MP.retV_ite, MP.retV_kix, MP.retV_ix, MP.retV_sl, MP.retV_rev, MP.retV_call, MP.retV_bi, MP.retV_isi, MP.retV_mt, MP.retV_pop, MP.retV_lrng, MP.retV_lc, MP.retV_fs, MP.sl0, MP.sl1, MP.sl2, MP.sl3, MP.sl4, MP.sl5, MP.sl6, MP.sl7, MP.sl8, MP.sl9, MP.sl10, MP.sl11, MP.set0, MP.set1, MP.set2, MP.set3, MP.set4, MP.set5, MP.set6, MP.set7, MP.set8, MP.set9, MP.set10, MP.set11, MP.add_i, MP.sub_i, MP.pow_i, MP.and_i, MP.or_i, MP.xor_i, MP.eq_i, MP.ne_i, MP.lt_i, MP.le_i, MP.gt_i, MP.ge_i, MP.eq_s, MP.ne_s, MP.ix_l, MP.ix_t', MP.len_l, MP.len_t, MP.abs_i, MP.int_i, MP.max_i, MP.min_i, MP.list_l, MP.list_t, MP.list_s, MP.tuple_l, MP.omap_some, MP.obind_some, decide_true, decide_false, MP.tr_bl, MP.isi_ii, MP.isi_ib, MP.turnO_ap, MP.asgT_v, MP.asgT_tup, MP.asgTs_nil, MP.asgTs_cons, MP.forK_ap, MP.lcM_ap, MP.lcStep_ap, MP.wipeF_nil, MP.wipeF_cons, MP.putF_nil, MP.putF_cons, MP.ifsM_nil, MP.ifsM_cons, MP.seqI_l, MP.seqI_t, MP.seqI_s, MP.sEq, MP.atI_0, MP.atI_1, MP.atI_2, MP.atI_3, MP.atI_4, MP.atI_5, MP.atI_6, MP.atI_mapp, MP.atI_m1, MP.sz_if, MP.dlt_t, MP.dlt_f, MP.dle_t, MP.dle_f, MP.beq_t, MP.beq_f, MP.bne_t, MP.bne_f, MP.mul_okr, MP.mul_okl, MP.fdiv_ok, MP.mod_ok, MP.shl1_ok, MP.shl_ok, MP.shr_ok, MP.add_t, MP.add_lo, MP.add_so, MP.app_ok, MP.ext_ok, MP.rng1_ok, MP.rng2_ok, MP.eq_n, MP.ne_n, MP.isN_n, MP.isN_i, MP.isN_s, MP.isN_t, MP.isN_l, MP.isN_b, MP.tr_t, MP.tr_l, MP.tr_i, MP.kix_s, MP.look_c, MP.look_n, MP.ixd, MP.key_i, MP.key_s, MP.dl_c, MP.sum_ii, MP.sum_ss, MP.isi_tt, MP.isi_tl, MP.isi_ts, MP.isi_tb, MP.isi_ti, MP.isi_ll, MP.isi_lt, MP.isi_ss, MP.isi_st, MP.isi_sl, MP.isi_sb, MP.isi_si, MP.isi_is, MP.isi_it, MP.isi_il, MP.isi_bb, MP.isi_bi, MP.isi_bt, MP.isi_blx, MP.isi_nt, MP.isi_nl, MP.isi_nb, MP.isi_ni, MP.isi_ns, MP.eq_b, MP.sl12, MP.sl13, MP.sl14, MP.set12, MP.set13, MP.set14, MP.lc_t, MP.part_mn, MP.part_mc, MP.enuOk_l, MP.enuOk_t, MP.zip_i, MP.zipV_ll, MP.zipV_lt, MP.zipV_tl, MP.zipV_tt, MP.fs_v, MP.fs_o, MP.fsM_n, MP.fsM_c, MP.strOf_s, MP.sl_t, MP.sl_l, MP.mt_v, MP.mt_o, MP.mt_t, MP.mt_i, MP.ty_split, MP.ty_endswith, MP.ty_startswith, MP.ty_join, MP.ty_index, MP.ty_get, MP.csat_ok, MP.tsat_nx, MP.tsat_ct, MP.unlk_c, ↓reduceIte, String.reduceEq, Int.reduceEq, Int.reduceLT, Int.reduceLE, Int.reduceAdd, Int.reduceSub, Int.reduceMul, Int.reduceNeg, Int.reduceToNat, Nat.reduceAdd, Nat.reduceSub, List.length_cons, List.length_nil, Int.one_mul, Bool.not_true, Bool.not_false, Bool.and_true, Bool.true_and, Bool.and_false, Bool.false_and, Bool.or_true, Bool.true_or, Bool.or_false, Bool.false_or, List.isEmpty_cons, List.isEmpty_nil, List.cons_append, List.nil_append, List.append_nil, MP.Rich.io_law_tape, MP.Rich.io_law_draw, MP.Rich.io_law_name, MP.Rich.io_law_runs, MP.Rich.io_law_size, MP.Rich.io_law_any_word, MP.Rich.io_law_a_count, MP.Rich.io_law_a_field, MP.Rich.io_law_ranges, MP.Rich.io_law_a_number, MP.Rich.io_law_part, MP.Rich.io_law_case_numbers, MP.Rich.io_law_not_empty, MP.Rich.io_law_rich, MP.Rich.io_law_rich_item, MP.Rich.io_law_fixed, MP.Rich.io_law_rich_word, MP.Rich.io_law_rich_choice, $[$ts:term],*])
abbrev S' := Str.ofString
theorem imenu (xs : List Int) (r lo hi : Int) (h : ∀ x ∈ xs, lo ≤ x ∧ x ≤ hi) (h0 : 0 ≤ r) (h1 : r < xs.length) : ∃ m, lo ≤ m ∧ m ≤ hi ∧ atI (xs.map D.int) r = some (.int m) := by
  obtain ⟨x, hx, e⟩ := menu h0 h1
  exact ⟨x, (h x hx).1, (h x hx).2, by rw [at_map, e]; rfl⟩
theorem menuQ (xs : List D) (r : Int) (Q : D → Prop) (h : ∀ x ∈ xs, Q x) (h0 : 0 ≤ r) (h1 : r < xs.length) : ∃ x, Q x ∧ atI xs r = some x := by
  obtain ⟨x, hx, e⟩ := menu h0 h1
  exact ⟨x, h x hx, e⟩
theorem all_c {α : Type} {Q : α → Prop} {a : α} {r : List α} (h : Q a) (hr : ∀ x ∈ r, Q x) : ∀ x ∈ a :: r, Q x := fun x hx => by
  rcases List.mem_cons.mp hx with e | e
  · rw [e]; exact h
  · exact hr x e
theorem all_n {α : Type} {Q : α → Prop} : ∀ x ∈ ([] : List α), Q x := fun x hx => by cases hx
section
variable {P : Prg} {I : Ix} {wn kk : Nat}
theorem Rich.size (H : Rich P I) (hk : 0 < kk) (w : Wd) : callF P wn kk I.law_size [.val (.str w.str)] = .ok (.val (.int w.sz)) [.un] := by
  obtain ⟨k, rfl⟩ : ∃ k, kk = k + 1 := ⟨kk - 1, by omega⟩
  rw [callF_succ P wn k H.law_size _ rfl]
  unfold F_law_size
  simp only [List.length_cons, List.length_nil, List.reduceReplicate, Nat.reduceSub, Nat.reduceAdd, List.cons_append, List.nil_append]
  cases w <;> wp_walk using Wd.str, Wd.s, Wd.sz
theorem Rich.any_word (H : Rich P I) (hk : 1 < kk) {t : List D} (tp : Tp t) : CSat (callF P wn kk I.law_any_word [.own t]) fun s ps => ∃ (w : Wd) (t' : List D), s = .val (.str w.str) ∧ ps = [.own t'] ∧ Tp t' := by
  obtain ⟨k, rfl⟩ : ∃ k, kk = k + 1 := ⟨kk - 1, by omega⟩
  rw [callF_succ P wn k H.law_any_word _ rfl]
  unfold F_law_any_word
  simp only [List.length_cons, List.length_nil, List.reduceReplicate, Nat.reduceSub, Nat.reduceAdd, List.cons_append, List.nil_append]
  wp_walk
  obtain ⟨r, t_r, e_r, tp, r0, r1, r2⟩ := H.draw (wn := wn) (kk := k) (by omega) tp (6) (by omega)
  replace r1 := r1 (by omega)
  wp_walk using e_r
  obtain ⟨d, ⟨w, rfl⟩, e⟩ := menuQ [.str (S' "u8"), .str (S' "u8"), .str (S' "u16be"), .str (S' "u16le"), .str (S' "u32be"), .str (S' "u32le")] r (fun d => ∃ w : Wd, d = .str w.str)
    (all_c ⟨.u8, rfl⟩ (all_c ⟨.u8, rfl⟩ (all_c ⟨.u16be, rfl⟩ (all_c ⟨.u16le, rfl⟩ (all_c ⟨.u32be, rfl⟩ (all_c ⟨.u32le, rfl⟩ all_n)))))) r0 (by simp; omega)
  wp_walk using e
  exact ⟨w, _, rfl, rfl, tp⟩
theorem Rich.a_count (H : Rich P I) (hk : 2 < kk) {t : List D} (tp : Tp t) {lo hi : Int} (h0 : 0 ≤ lo) (h1 : lo ≤ hi) (h2 : 1 ≤ hi) (h3 : hi ≤ 60) :
    CSat (callF P wn kk I.law_a_count [.own t, .val (.int lo), .val (.int hi)]) fun s ps => ∃ (c : Cnt) (t' : List D), s = .val c.d ∧ (c.ok ∧ c.hi = hi) ∧ ps = [.own t', .un, .un] ∧ Tp t' := by
  obtain ⟨k, rfl⟩ : ∃ k, kk = k + 1 := ⟨kk - 1, by omega⟩
  rw [callF_succ P wn k H.law_a_count _ rfl]
  unfold F_law_a_count
  simp only [List.length_cons, List.length_nil, List.reduceReplicate, Nat.reduceSub, Nat.reduceAdd, List.cons_append, List.nil_append]
  wp_walk
  obtain ⟨r, t_r, e_r, tp, r0, r1, r2⟩ := H.draw (wn := wn) (kk := k) (by omega) tp (3) (by omega)
  replace r1 := r1 (by omega)
  wp_walk using e_r
  by_cases c1 : r > 0
  · by_cases c2 : lo = hi
    · wp_walk
      exact ⟨.exactly hi, _, rfl, ⟨⟨h2, h3⟩, rfl⟩, rfl, tp⟩
    · by_cases c3 : lo = 0
      · wp_walk
        exact ⟨.marked hi, _, rfl, ⟨⟨h2, h3⟩, rfl⟩, rfl, tp⟩
      · wp_walk
        obtain ⟨_, _, e, w, t', rfl, rfl, tp⟩ := (H.any_word (wn := wn) (kk := k) (by omega) tp).get
        wp_walk using e
        exact ⟨.counted w lo hi, _, rfl, ⟨⟨h0, h1, h2, h3⟩, rfl⟩, rfl, tp⟩
  · by_cases c2 : lo = hi
    · by_cases c3 : lo = 0
      · omega
      · wp_walk
        obtain ⟨_, _, e, w, t', rfl, rfl, tp⟩ := (H.any_word (wn := wn) (kk := k) (by omega) tp).get
        wp_walk using e
        exact ⟨.counted w lo hi, _, rfl, ⟨⟨h0, h1, h2, h3⟩, rfl⟩, rfl, tp⟩
    · by_cases c3 : lo = 0
      · wp_walk
        obtain ⟨_, _, e, w, t', rfl, rfl, tp⟩ := (H.any_word (wn := wn) (kk := k) (by omega) tp).get
        wp_walk using e
        exact ⟨.counted w lo hi, _, rfl, ⟨⟨h0, h1, h2, h3⟩, rfl⟩, rfl, tp⟩
      · wp_walk
        obtain ⟨_, _, e, w, t', rfl, rfl, tp⟩ := (H.any_word (wn := wn) (kk := k) (by omega) tp).get
        wp_walk using e
        exact ⟨.counted w lo hi, _, rfl, ⟨⟨h0, h1, h2, h3⟩, rfl⟩, rfl, tp⟩
end
end MP

/-! MP: rich layouts: names. -/
namespace MP
open PySem L2
local macro_rules | `(tactic| wp_walk) => `(tactic| simp -implicitDefEqProofs (disch := first | assumption | omega | (simp only [List.length_cons, List.length_nil, List.length_map, List.length_append]; omega)) only [MP.bnd_ap, MP.bX_ok, MP.thenS_ap, MP.tX_ok, MP.seqS_nx, MP.seqS_rt, MP.seqS_bk, MP.seqS_ct, MP.ret_ap, MP.opt_some, MP.when_true, MP.evB_nil, MP.evB_cons, MP.evS_asg, MP.evS_asgT, MP.evS_aug, MP.evS_setix, MP.evS_par, MP.sets_nil, MP.sets_cons, MP.evS_ex, MP.evS_ite, MP.evS_for, MP.evS_whl, MP.evS_ret, MP.evS_retN, MP.evS_brk, MP.evS_cont, MP.evS_pass, MP.selS_true, MP.selS_false, MP.selM_true, MP.selM_false, MP.slK_ap, MP.itK_ap, MP.tru_ap, MP.fz_ap, MP.var_v, MP.var_t, MP.var_o, MP.var_i, MP.int_v, MP.int_o, MP.str_v, MP.str_o, MP.bl_v, MP.bl_o, MP.bl_t, MP.non_v, MP.non_o, MP.glo_v, MP.glo_o, MP.glo_i, MP.tup_v, MP.tup_o, MP.tup_i, MP.lst_v, MP.lst_o, MP.lst_i, MP.bin_v, MP.bin_o, MP.bin_t, MP.bin_i, MP.negK_int, MP.neg_v, MP.neg_o, MP.not_v, MP.not_t, MP.not_o, MP.isB_bl, MP.and_v, MP.and_t, MP.and_o, MP.or_v, MP.or_t, MP.or_o, MP.cmp_t, MP.cmp_v, MP.cmp_o, MP.cmp2_t, MP.cmp2_v, MP.cmp2_o, MP.ite_v, MP.ite_o, MP.ite_i, MP.kix_v, MP.kix_o, MP.ix_v, MP.ix_o, MP.ix_t, MP.ix_i, MP.sl_v, MP.sl_o, MP.sl_i, MP.rev_v, MP.rev_o, MP.rev_i, MP.revK_t, MP.revK_l, MP.call_v, MP.call_o, MP.call_t, MP.call_i, MP.bi_v, MP.bi_o, MP.bi_t, MP.bi_i, MP.isi_v, MP.isi_o, MP.isi_t, MP.app_v, MP.ext_v, MP.pop_v, MP.pop_o, MP.revm_v, MP.rng_i, MP.dic_v, MP.dic_o, MP.lrng_v, MP.lrng_o, MP.lrng_i, MP.enu_i, MP.lc_v, MP.lc_o, MP.lc_i, MP.evs_nil, MP.evs_cons, MP.vals_nil, MP.vals_cons, MP.opds_nil, MP.opds_cons, MP.rdOs_nil, MP.rdOs_cons, MP.args_nil, MP.args_t, MP.args_f, MP.rdO_at, MP.rdO_sl, MP.d_val, MP.d_own, MP.d_lk, MP.opAt_ap, MP.opAtS_val, MP.opAtS_own, MP.opAtS_lk, MP.cap_ap, MP.capS_some, MP.retV_var, MP.retS_own, MP.retS_val, MP.ownAt_ap, MP.ownS_own, MP.chg_ap, MP.chgS_own, MP.chgO_some, MP.setAt_int, MP.itO_at', MP.itS_own, MP.itS_val, MP.itO_sl', MP.part_nil, MP.part_cons, MP.partK_int, MP.extK_lst, MP.callM_ap, MP.endC_ok, MP.takes_nil, MP.takes_at, MP.takes_sl, MP.backs_at, MP.backs_sl, MP.backs_nil, MP.lent_t, MP.lent_f, MP.lent_n, MP.endF_rt, MP.endF_nx, MP.onFr_nx, MP.onFr_rt, MP.unlk_nil, MP.retV_int, MP.retV_str, MP.retV_bl, MP.retV_non, MP.retV_glo, MP.retV_tup, MP.retV_lst, MP.retV_dic, MP.retV_bin, MP.retV_neg, MP.retV_not, MP.retV_and, MP.retV_or, MP.retV_cmp, MP.retV_cmp2, MP.retV_ite, MP.retV_kix, MP.retV_ix, MP.retV_sl, MP.retV_rev, MP.retV_call, MP.retV_bi, MP.retV_isi, MP.retV_mt, MP.retV_pop, MP.retV_lrng, MP.retV_lc, MP.retV_fs, MP.sl0, MP.sl1, MP.sl2, MP.sl3, MP.sl4, MP.sl5, MP.sl6, MP.sl7, MP.sl8, MP.sl9, MP.sl10, MP.sl11, MP.set0, MP.set1, MP.set2, MP.set3, MP.set4, MP.set5, MP.set6, MP.set7, MP.set8, MP.set9, MP.set10, MP.set11, MP.add_i, MP.sub_i, MP.pow_i, MP.and_i, MP.or_i, MP.xor_i, MP.eq_i, MP.ne_i, MP.lt_i, MP.le_i, MP.gt_i, MP.ge_i, MP.eq_s, MP.ne_s, MP.ix_l, MP.ix_t', MP.len_l, MP.len_t, MP.abs_i, MP.int_i, MP.max_i, MP.min_i, MP.list_l, MP.list_t, MP.list_s, MP.tuple_l, MP.omap_some, MP.obind_some, decide_true, decide_false, MP.tr_bl, MP.isi_ii, MP.isi_ib, MP.turnO_ap, MP.asgT_v, MP.asgT_tup, MP.asgTs_nil, MP.asgTs_cons, MP.forK_ap, MP.lcM_ap, MP.lcStep_ap, MP.wipeF_nil, MP.wipeF_cons, MP.putF_nil, MP.putF_cons, MP.ifsM_nil, MP.ifsM_cons, MP.seqI_l, MP.seqI_t, MP.seqI_s, MP.sEq, MP.atI_0, MP.atI_1, MP.atI_2, MP.atI_3, MP.atI_4, MP.atI_5, MP.atI_6, MP.atI_mapp, MP.atI_m1, MP.sz_if, MP.dlt_t, MP.dlt_f, MP.dle_t, MP.dle_f, MP.beq_t, MP.beq_f, MP.bne_t, MP.bne_f, MP.mul_okr, MP.mul_okl, MP.fdiv_ok, MP.mod_ok, MP.shl1_ok, MP.shl_ok, MP.shr_ok, MP.add_t, MP.add_lo, MP.add_so, MP.app_ok, MP.ext_ok, MP.rng1_ok, MP.rng2_ok, MP.eq_n, MP.ne_n, MP.isN_n, MP.isN_i, MP.isN_s, MP.isN_t, MP.isN_l, MP.isN_b, MP.tr_t, MP.tr_l, MP.tr_i, MP.kix_s, MP.look_c, MP.look_n, MP.ixd, MP.key_i, MP.key_s, MP.dl_c, MP.sum_ii, MP.sum_ss, MP.isi_tt, MP.isi_tl, MP.isi_ts, MP.isi_tb, MP.isi_ti, MP.isi_ll, MP.isi_lt, MP.isi_ss, MP.isi_st, MP.isi_sl, MP.isi_sb, MP.isi_si, MP.isi_is, MP.isi_it, MP.isi_il, MP.isi_bb, MP.isi_bi, MP.isi_bt, MP.isi_blx, MP.isi_nt, MP.isi_nl, MP.isi_nb, MP.isi_ni, MP.isi_ns, MP.eq_b, MP.sl12, MP.sl13, MP.sl14, MP.set12, MP.set13, MP.set14, MP.lc_t, MP.part_mn, MP.part_mc, MP.enuOk_l, MP.enuOk_t, MP.zip_i, MP.zipV_ll, MP.zipV_lt, MP.zipV_tl, MP.zipV_tt, MP.fs_v, MP.fs_o, MP.fsM_n, MP.fsM_c, MP.strOf_s, MP.sl_t, MP.sl_l, MP.mt_v, MP.mt_o, MP.mt_t, MP.mt_i, MP.ty_split, MP.ty_endswith, MP.ty_startswith, MP.ty_join, MP.ty_index, MP.ty_get, MP.csat_ok, MP.tsat_nx, MP.tsat_ct, MP.unlk_c, ↓reduceIte, String.reduceEq, Int.reduceEq, Int.reduceLT, Int.reduceLE, Int.reduceAdd, Int.reduceSub, Int.reduceMul, Int.reduceNeg, Int.reduceToNat, Nat.reduceAdd, Nat.reduceSub, List.length_cons, List.length_nil, Int.one_mul, Bool.not_true, Bool.not_false, Bool.and_true, Bool.true_and, Bool.and_false, Bool.false_and, Bool.or_true, Bool.true_or, Bool.or_false, Bool.false_or, List.isEmpty_cons, List.isEmpty_nil, List.cons_append, List.nil_append, List.append_nil, MP.Rich.io_law_tape, MP.Rich.io_law_draw, MP.Rich.io_law_name, MP.Rich.io_law_runs, MP.Rich.io_law_size, MP.Rich.io_law_any_word, MP.Rich.io_law_a_count, MP.Rich.io_law_a_field, MP.Rich.io_law_ranges, MP.Rich.io_law_a_number, MP.Rich.io_law_part, MP.Rich.io_law_case_numbers, MP.Rich.io_law_not_empty, MP.Rich.io_law_rich, MP.Rich.io_law_rich_item, MP.Rich.io_law_fixed, MP.Rich.io_law_rich_word, MP.Rich.io_law_rich_choice])
local macro_rules | `(tactic| wp_walk using $ts:term,*) => `(tactic| simp -implicitDefEqProofs (disch := first | assumption | omega | (simp only [List.length_cons, List.length_nil, List.length_map, List.length_append]; omega)) only [MP.bnd_ap, MP.bX_ok, MP.thenS_ap, MP.tX_ok, MP.seqS_nx, MP.seqS_rt, MP.seqS_bk, MP.seqS_ct, MP.ret_ap, MP.opt_some, MP.when_true, MP.evB_nil, MP.evB_cons, MP.evS_asg, MP.evS_asgT, MP.evS_aug, MP.evS_setix, MP.evS_par, MP.sets_nil, MP.sets_cons, MP.evS_ex, MP.evS_ite, MP.evS_for, MP.evS_whl, MP.evS_ret, MP.evS_retN, MP.evS_brk, MP.evS_cont, MP.evS_pass, MP.selS_true, MP.selS_false, MP.selM_true, MP.selM_false, MP.slK_ap, MP.itK_ap, MP.tru_ap, MP.fz_ap, MP.var_v, MP.var_t, MP.var_o, MP.var_i, MP.int_v, MP.int_o, MP.str_v, MP.str_o, MP.bl_v, MP.bl_o, MP.bl_t, MP.non_v, MP.non_o, MP.glo_v, MP.glo_o, MP.glo_i, MP.tup_v, MP.tup_o, MP.tup_i, MP.lst_v, MP.lst_o, MP.lst_i, MP.bin_v, MP.bin_o, MP.bin_t, MP.bin_i, MP.negK_int, MP.neg_v, MP.neg_o, MP.not_v, MP.not_t, MP.not_o, MP.isB_bl, MP.and_v, MP.and_t, MP.and_o, MP.or_v, MP.or_t, MP.or_o, MP.cmp_t, MP.cmp_v, MP.cmp_o, MP.cmp2_t, MP.cmp2_v, MP.cmp2_o, MP.ite_v, MP.ite_o, MP.ite_i, MP.kix_v, MP.kix_o, MP.ix_v, MP.ix_o, MP.ix_t, MP.ix_i, MP.sl_v, MP.sl_o, MP.sl_i, MP.rev_v, MP.rev_o, MP.rev_i, MP.revK_t, MP.revK_l, MP.call_v, MP.call_o, MP.call_t, MP.call_i, MP.bi_v, MP.bi_o, MP.bi_t, MP.bi_i, MP.isi_v, MP.isi_o, MP.isi_t, MP.app_v, MP.ext_v, MP.pop_v, MP.pop_o, MP.revm_v, MP.rng_i, MP.dic_v, MP.dic_o, MP.lrng_v, MP.lrng_o, MP.lrng_i, MP.enu_i, MP.lc_v, MP.lc_o, MP.lc_i, MP.evs_nil, MP.evs_cons, MP.vals_nil, MP.vals_cons, MP.opds_nil, MP.opds_cons, MP.rdOs_nil, MP.rdOs_cons, MP.args_nil, MP.args_t, MP.args_f, MP.rdO_at, MP.rdO_sl, MP.d_val, MP.d_own, MP.d_lk, MP.opAt_ap, MP.opAtS_val, MP.opAtS_own, MP.opAtS_lk, MP.cap_ap, MP.capS_some, MP.retV_var, MP.retS_own, MP.retS_val, MP.ownAt_ap, MP.ownS_own, MP.chg_ap, MP.chgS_own, MP.chgO_some, MP.setAt_int, MP.itO_at', MP.itS_own, MP.itS_val, MP.itO_sl', MP.part_nil, MP.part_cons, MP.partK_int, MP.extK_lst, MP.callM_ap, MP.endC_ok, MP.takes_nil, MP.takes_at, MP.takes_sl, MP.backs_at, MP.backs_sl, MP.backs_nil, MP.lent_t, MP.lent_f, MP.lent_n, MP.endF_rt, MP.endF_nx, MP.onFr_nx, MP.onFr_rt, MP.unlk_nil, MP.retV_int, MP.retV_str, MP.retV_bl, MP.retV_non, MP.retV_glo, MP.retV_tup, MP.retV_lst, MP.retV_dic, MP.retV_bin, MP.retV_neg, MP.retV_not, MP.retV_and, MP.retV_or, MP.retV_cmp, MP.retV_cmp2, MP.retV_ite, MP.retV_kix, MP.retV_ix, MP.retV_sl, MP.retV_rev, MP.retV_call, MP.retV_bi, MP.retV_isi, MP.retV_mt, MP.retV_pop, MP.retV_lrng, MP.retV_lc, MP.retV_fs, MP.sl0, MP.sl1, MP.sl2, MP.sl3, MP.sl4, MP.sl5, MP.sl6, MP.sl7, MP.sl8, MP.sl9, MP.sl10, MP.sl11, MP.set0, MP.set1, MP.set2, MP.set3, MP.set4, MP.set5, MP.set6, MP.set7, MP.set8, MP.set9, MP.set10, MP.set11, MP.add_i, MP.sub_i, MP.pow_i, MP.and_i, MP.or_i, MP.xor_i, MP.eq_i, MP.ne_i, MP.lt_i, MP.le_i, MP.gt_i, MP.ge_i, MP.eq_s, MP.ne_s, MP.ix_l, MP.ix_t', MP.len_l, MP.len_t, MP.abs_i, MP.int_i, MP.max_i, MP.min_i, MP.list_l, MP.list_t, MP.list_s, MP.tuple_l, MP.omap_some, MP.obind_some, decide_true, decide_false, MP.tr_bl, MP.isi_ii, MP.isi_ib, MP.turnO_ap, MP.asgT_v, MP.asgT_tup, MP.asgTs_nil, MP.asgTs_cons, MP.forK_ap, MP.lcM_ap, MP.lcStep_ap, MP.wipeF_nil, MP.wipeF_cons, MP.putF_nil, MP.putF_cons, MP.ifsM_nil, MP.ifsM_cons, MP.seqI_l, MP.seqI_t, MP.seqI_s, MP.sEq, MP.atI_0, MP.atI_1, MP.atI_2, MP.atI_3, MP.atI_4, MP.atI_5, MP.atI_6, MP.atI_mapp, MP.atI_m1, MP.sz_if, MP.dlt_t, MP.dlt_f, MP.dle_t, MP.dle_f, MP.beq_t, MP.beq_f, MP.bne_t, MP.bne_f, MP.mul_okr, MP.mul_okl, MP.fdiv_ok, MP.mod_ok, MP.shl1_ok, MP.shl_ok, MP.shr_ok, MP.add_t, MP.add_lo, MP.add_so, MP.app_ok, MP.ext_ok, MP.rng1_ok, MP.rng2_ok, MP.eq_n, MP.ne_n, MP.isN_n, MP.isN_i, MP.isN_s, MP.isN_t, MP.isN_l, MP.isN_b, MP.tr_t, MP.tr_l, MP.tr_i, MP.kix_s, MP.look_c, MP.look_n, MP.ixd, MP.key_i, MP.key_s, MP.dl_c, MP.sum_ii, MP.sum_ss, MP.isi_tt, MP.isi_tl, MP.isi_ts, MP.isi_tb, MP.isi_ti, MP.isi_ll, MP.isi_lt, MP.isi_ss, MP.isi_st, MP.isi_sl, MP.isi_sb, MP.isi_si, MP.isi_is, MP.isi_it, MP.isi_il, MP.isi_bb, MP.isi_bi, MP.isi_bt, MP.isi_blx, MP.isi_nt, MP.isi_nl, MP.isi_nb, MP.isi_ni, MP.isi_ns, MP.eq_b, MP.sl12, MP.sl13, MP.sl14, MP.set12, MP.set13, MP.set14, MP.lc_t, MP.part_mn, MP.part_mc, MP.enuOk_l, MP.enuOk_t, MP.zip_i, MP.zipV_ll, MP.zipV_lt, MP.zipV_tl, MP.zipV_tt, MP.fs_v, MP.fs_o, MP.fsM_n, MP.fsM_c, MP.strOf_s, MP.sl_t, MP.sl_l, MP.mt_v, MP.mt_o, MP.mt_t, MP.mt_i, MP.ty_split, MP.ty_endswith, MP.ty_startswith, MP.ty_join, MP.ty_index, MP.ty_get, MP.csat_ok, MP.tsat_nx, MP.tsat_ct, MP.unlk_c, ↓reduceIte, String.reduceEq, Int.reduceEq, Int.reduceLT, Int.reduceLE, Int.reduceAdd, Int.reduceSub, Int.reduceMul, Int.reduceNeg, Int.reduceToNat, Nat.reduceAdd, Nat.reduceSub, List.length_cons, List.length_nil, Int.one_mul, Bool.not_true, Bool.not_false, Bool.and_true, Bool.true_and, Bool.and_false, Bool.false_and, Bool.or_true, Bool.true_or, Bool.or_false, Bool.false_or, List.isEmpty_cons, List.isEmpty_nil, List.cons_append, List.nil_append, List.append_nil, MP.Rich.io_law_tape, MP.Rich.io_law_draw, MP.Rich.io_law_name, MP.Rich.io_law_runs, MP.Rich.io_law_size, MP.Rich.io_law_any_word, MP.Rich.io_law_a_count, MP.Rich.io_law_a_field, MP.Rich.io_law_ranges, MP.Rich.io_law_a_number, MP.Rich.io_law_part, MP.Rich.io_law_case_numbers, MP.Rich.io_law_not_empty, MP.Rich.io_law_rich, MP.Rich.io_law_rich_item, MP.Rich.io_law_fixed, MP.Rich.io_law_rich_word, MP.Rich.io_law_rich_choice, $[$ts:term],*])
theorem str_app_len (x y : Str) : (x ++ y).length = x.length + y.length := by
  show (x.cps ++ y.cps).size = _
  rw [Array.size_append]; rfl
theorem str_app_ok {x y : Str} (h : PyData.strOk x = true) (h2 : PyData.strOk y = true) : PyData.strOk (x ++ y) = true := by
  show (x.cps ++ y.cps).all _ = true
  rw [Array.all_append]
  unfold PyData.strOk at h h2
  rw [h, h2]; rfl
def NmL (n : Nat) (x : Str) : Prop := PyData.strOk x = true ∧ x.length ≤ n
theorem NmL.app {n m : Nat} {x y : Str} (h : NmL n x) (h2 : NmL m y) : NmL (n + m) (x ++ y) := ⟨str_app_ok h.1 h2.1, by rw [str_app_len]; exact Nat.add_le_add h.2 h2.2⟩
theorem NmL.mono {n m : Nat} {x : Str} (h : NmL n x) (h2 : n ≤ m) : NmL m x := ⟨h.1, Nat.le_trans h.2 h2⟩
theorem str_pos {x : Str} (h : x ≠ Str.ofString "") : 0 < x.length := by
  cases x with
  | mk c =>
    have : c.size ≠ 0 := fun e => h (by rw [Array.size_eq_zero_iff.mp e]; rfl)
    show 0 < c.size
    omega
def nmB (n : Nat) (x : Str) : Bool := PyData.strOk x && decide (x.length ≤ n)
theorem nmB_ok {n : Nat} {x : Str} (h : nmB n x = true) : NmL n x := by
  unfold nmB at h; rw [Bool.and_eq_true, decide_eq_true_eq] at h; exact h
theorem sign_all : (Str.ofString "abcdefghijklmnopqrstuvwxyzABCDEFGHIJKLMNOPQRSTUVWXYZ0123456789_").cps.toList.all (fun c => nmB 1 ⟨#[c]⟩) = true := by decide +kernel
theorem sign_len : (Str.ofString "abcdefghijklmnopqrstuvwxyzABCDEFGHIJKLMNOPQRSTUVWXYZ0123456789_").cps.toList.length = 63 := by decide +kernel
theorem sign_ix {r : Int} (h0 : 0 ≤ r) (h1 : r < 63) : ∃ x : Str, (NmL 1 x ∧ 0 < x.length) ∧ index (.str (Str.ofString "abcdefghijklmnopqrstuvwxyzABCDEFGHIJKLMNOPQRSTUVWXYZ0123456789_")) (.int r) = some (.val (.str x)) := by
  obtain ⟨c, hc, e⟩ := menu (xs := (Str.ofString "abcdefghijklmnopqrstuvwxyzABCDEFGHIJKLMNOPQRSTUVWXYZ0123456789_").cps.toList) h0 (by rw [sign_len]; omega)
  refine ⟨⟨#[c]⟩, ⟨nmB_ok (List.all_eq_true.mp sign_all c hc), Nat.zero_lt_one⟩, ?_⟩
  show (if (Str.ofString "abcdefghijklmnopqrstuvwxyzABCDEFGHIJKLMNOPQRSTUVWXYZ0123456789_").length ≤ sizeLine then (atI (Str.ofString "abcdefghijklmnopqrstuvwxyzABCDEFGHIJKLMNOPQRSTUVWXYZ0123456789_").cps.toList r).map fun c => Slot.val (.str ⟨#[c]⟩) else none) = _
  rw [if_pos (sz_le (by decide +kernel)), e]; rfl
theorem word_all : (Txt.split (Str.ofString "signed case u8 in list default bits choice record literal reserved check marked sum xor i8 length value") (Str.ofString " ")).all (nmB 15) = true := by decide +kernel
theorem word_len : (Txt.split (Str.ofString "signed case u8 in list default bits choice record literal reserved check marked sum xor i8 length value") (Str.ofString " ")).length = 18 := by decide +kernel
theorem word_split : mt .split (.str (Str.ofString "signed case u8 in list default bits choice record literal reserved check marked sum xor i8 length value")) [.str (Str.ofString " ")] = some (.own ((Txt.split (Str.ofString "signed case u8 in list default bits choice record literal reserved check marked sum xor i8 length value") (Str.ofString " ")).map .str)) := by
  show when _ _ = _
  rw [when_pos]
  decide +kernel
theorem word_ix {r : Int} (h0 : 0 ≤ r) (h1 : r < 18) : ∃ x : Str, NmL 15 x ∧ atI ((Txt.split (Str.ofString "signed case u8 in list default bits choice record literal reserved check marked sum xor i8 length value") (Str.ofString " ")).map D.str) r = some (.str x) := by
  obtain ⟨c, hc, e⟩ := menu (xs := Txt.split (Str.ofString "signed case u8 in list default bits choice record literal reserved check marked sum xor i8 length value") (Str.ofString " ")) h0 (by rw [word_len]; omega)
  exact ⟨c, nmB_ok (List.all_eq_true.mp word_all c hc), by rw [at_map, e]; rfl⟩
theorem split_ty (x : Str) : Mt.tyOk .split (.str x) = true := rfl
/-- numbers below 100 as texts -/
theorem str_nums : (List.range 100).all (fun i => nmB 3 (toString (i : Int) : Str) && decide ((i : Int).natAbs.log2 < 1920)) = true := by decide +kernel
def iS (i : Int) : Str := (toString i : Str)
theorem str_num2 {i : Int} (h0 : 0 ≤ i) (h1 : i < 100) : NmL 3 (iS i) ∧ bi .str [.int i] = some (.val (.str (iS i))) ∧ strOf (.int i) = some (iS i) := by
  have h := List.all_eq_true.mp str_nums i.toNat (List.mem_range.mpr (by omega))
  have e : ((i.toNat : Nat) : Int) = i := by omega
  rw [e, Bool.and_eq_true] at h
  exact ⟨nmB_ok h.1, when_pos h.2 _, when_pos h.2 _⟩
theorem str_num {i : Int} (h0 : 0 ≤ i) (h1 : i < 100) : ∃ x : Str, NmL 3 x ∧ bi .str [.int i] = some (.val (.str x)) := ⟨_, (str_num2 h0 h1).1, (str_num2 h0 h1).2.1⟩
def numOf (x : Str) : Nat := x.cps.toList.foldl (fun n c => n * 10 + (c - 48)) 0
theorem num_all : (List.range 100).all (fun i => numOf (iS (i : Int)) == i && decide (0 < (iS (i : Int)).length)) = true := by decide +kernel
theorem num_iS {i : Nat} (h : i < 100) : numOf (iS (i : Int)) = i ∧ 0 < (iS (i : Int)).length := by
  have h := List.all_eq_true.mp num_all i (List.mem_range.mpr h)
  rw [Bool.and_eq_true] at h
  exact ⟨eq_of_beq h.1, of_decide_eq_true h.2⟩
/-- a name that is not used, whatever is used -/
def cand (x : Str) : Nat → Str
  | 0 => x
  | j + 1 => x ++ iS (j : Int)
theorem str_app_inj {x a b : Str} (h : x ++ a = x ++ b) : a = b := by
  have h : x.cps ++ a.cps = x.cps ++ b.cps := congrArg Str.cps h
  have h := congrArg Array.toList h
  rw [Array.toList_append, Array.toList_append] at h
  have h := List.append_cancel_left h
  cases a; cases b
  exact congrArg Str.mk (Array.toList_inj.mp h)
theorem cand_inj {x : Str} {i j : Nat} (hi : i < 100) (hj : j < 100) (h : cand x i = cand x j) : i = j := by
  cases i with
  | zero =>
    cases j with
    | zero => rfl
    | succ j =>
      have := (num_iS (i := j) (by omega)).2
      have h : x = x ++ iS (j : Int) := h
      have h2 := congrArg Str.length h
      rw [str_app_len] at h2; omega
  | succ i =>
    cases j with
    | zero =>
      have := (num_iS (i := i) (by omega)).2
      have h : x ++ iS (i : Int) = x := h
      have h2 := congrArg Str.length h
      rw [str_app_len] at h2; omega
    | succ j =>
      have h : x ++ iS (i : Int) = x ++ iS (j : Int) := h
      have h2 := congrArg numOf (str_app_inj h)
      rw [(num_iS (i := i) (by omega)).1, (num_iS (i := j) (by omega)).1] at h2
      omega
theorem nodup_le {α : Type} [BEq α] [LawfulBEq α] : ∀ (l m : List α), l.Nodup → (∀ x ∈ l, x ∈ m) → l.length ≤ m.length
  | [], m, _, _ => Nat.zero_le _
  | a :: l, m, hn, hs => by
    have ha := hs a List.mem_cons_self
    have hn2 := List.nodup_cons.mp hn
    have := nodup_le l (m.erase a) hn2.2 fun x hx => (List.mem_erase_of_ne (fun e => hn2.1 (by rw [← e]; exact hx))).mpr (hs x (List.mem_cons_of_mem _ hx))
    rw [List.length_erase_of_mem ha] at this
    have hp := List.length_pos_of_mem ha
    rw [List.length_cons]; omega
theorem cand_new {x : Str} {us : List Str} (hl : us.length < 99) (h : ∀ i, i < us.length → cand x i ∈ us) : cand x us.length ∉ us := fun hm => by
  have hn : ((List.range (us.length + 1)).map (cand x)).Nodup := by
    rw [List.Nodup, List.pairwise_map]
    have := List.nodup_range (n := us.length + 1)
    refine List.Pairwise.imp_of_mem ?_ this
    intro a b ha hb hab e
    have ha := List.mem_range.mp ha
    have hb := List.mem_range.mp hb
    exact hab (cand_inj (by omega) (by omega) e)
  have := nodup_le _ us hn fun y hy => by
    obtain ⟨i, hi, rfl⟩ := List.mem_map.mp hy
    have hi := List.mem_range.mp hi
    by_cases c : i = us.length
    · rw [c]; exact hm
    · exact h i (by omega)
  rw [List.length_map, List.length_range] at this
  omega
theorem deps_str : ∀ us : List Str, (∀ x ∈ us, PyData.strOk x = true) → D.deps (us.map .str) = some 0
  | [], _ => rfl
  | x :: us, h => by
    show (match D.dep (.str x), D.deps (us.map .str) with | some a, some b => some (max a b) | _, _ => none) = _
    rw [deps_str us fun y hy => h y (List.mem_cons_of_mem _ hy)]
    show (match (if PyData.strOk x then some 0 else none), some 0 with | some a, some b => some (max a b) | _, _ => none) = _
    rw [h x List.mem_cons_self]; rfl
theorem in_strs {x : Str} {us : List Str} (hx : PyData.strOk x = true) (h : ∀ y ∈ us, PyData.strOk y = true) : cmpop .in_ (.str x) (.lst (us.map .str)) = some (us.any fun y => decide (y = x)) := by
  have e1 : D.shal (.str x) = true := by
    unfold D.shal
    show (match (if PyData.strOk x then some 0 else none) with | some n => decide (n ≤ 60) | none => false) = true
    rw [hx]; rfl
  have e2 : D.shal (.lst (us.map .str)) = true := by
    unfold D.shal
    rw [show D.dep (.lst (us.map .str)) = (D.deps (us.map .str)).map (· + 1) from rfl, deps_str us h]; rfl
  show when (D.shal (.str x) && D.shal (.lst (us.map .str))) (inB (.str x) (us.map .str)) = _
  rw [e1, e2]
  show some (inB (.str x) (us.map .str)) = _
  unfold inB
  rw [List.any_map]; rfl
section
variable {P : Prg} {I : Ix} {wn kk : Nat}
/-- the second half: signs behind, then another name if it is used -/
theorem Rich.name_tail (H : Rich P I) {k : Nat} (hk : 0 < k) {t : List D} (tp : Tp t) {us : List Str} (hu : us.length < 99) (hU : ∀ x ∈ us, PyData.strOk x = true) {nm : Str} (hn : NmL 16 nm) (hn0 : 0 < nm.length) (x5 x6 : Slot) :
    CSat (endF [true, true] (evB P (callF P wn k) wn ((F_law_name I).body.drop 5) [.own t, .own (us.map .str), .val (.str (Str.ofString "abcdefghijklmnopqrstuvwxyzABCDEFGHIJKLMNOPQRSTUVWXYZ0123456789_")), .val (.str (Str.ofString "signed case u8 in list default bits choice record literal reserved check marked sum xor i8 length value")), .val (.str nm), x5, x6]))
      fun s ps => ∃ (x : Str) (t' : List D), s = .val (.str x) ∧ (NmOk x ∧ x ∉ us) ∧ ps = [.own t', .own (us.map .str)] ∧ Tp t' := by
  unfold F_law_name
  simp only [List.drop_succ_cons, List.drop_zero]
  wp_walk
  obtain ⟨r, t_r, e_r, tp, r0, r1, r2⟩ := H.draw (wn := wn) (kk := k) (by omega) tp (4) (by omega)
  replace r1 := r1 (by omega)
  wp_walk using e_r
  obtain ⟨m, m0, m1, e_m⟩ := imenu [0, 0, 1, 2] r (0) (2) (by intro x hx; simp only [List.mem_cons, List.not_mem_nil, or_false] at hx; omega) (by omega) (by simp only [List.length_cons, List.length_nil]; omega)
  simp only [List.map_cons, List.map_nil] at e_m
  wp_walk using e_m
  refine for_t (G := fun z => CSat (endF _ (qX _ (onFr _ z))) _) (fun j fr => ∃ (t' : List D) (x : Str) (y : Slot), Tp t' ∧ (NmL (16 + j) x ∧ 0 < x.length) ∧ fr = [.own t', .own (us.map .str), .val (.str (Str.ofString "abcdefghijklmnopqrstuvwxyzABCDEFGHIJKLMNOPQRSTUVWXYZ0123456789_")), .val (.str (Str.ofString "signed case u8 in list default bits choice record literal reserved check marked sum xor i8 length value")), .val (.str x), y, x6]) ⟨_, nm, x5, tp, ⟨hn, hn0⟩, rfl⟩ ?_ ?_
  · rintro j d fr hj ⟨t', x, y, tp, ⟨hx, hx0⟩, rfl⟩
    have hj2 := (upto_at hj).1
    wp_walk
    obtain ⟨u, t_u, e_u, tp, u0, u1, u2⟩ := H.draw (wn := wn) (kk := k) (by omega) tp (63) (by omega)
    replace u1 := u1 (by omega)
    wp_walk using e_u
    obtain ⟨c, ⟨hc, _⟩, e⟩ := sign_ix u0 u1
    have hl := hx.2
    have hl2 := hc.2
    wp_walk using e
    exact ⟨_, x ++ c, _, tp, ⟨hx.app hc, by rw [str_app_len]; omega⟩, rfl⟩
  · rintro fr ⟨t', x, y, tp, ⟨hx, hx0⟩, rfl⟩
    rw [upto_len] at hx
    have hx : NmL 18 x := hx.mono (by omega)
    have hz : (us.map D.str).length = us.length := List.length_map ..
    wp_walk using hz
    refine for_t (G := fun z => CSat (endF _ (qX _ (onFr _ z))) _) (fun j fr => ∃ (z : Str) (y : Slot), (NmL 21 z ∧ 0 < z.length ∧ (z ∉ us ∨ (z = cand x j ∧ ∀ i, i < j → cand x i ∈ us))) ∧ fr = [.own t', .own (us.map .str), .val (.str (Str.ofString "abcdefghijklmnopqrstuvwxyzABCDEFGHIJKLMNOPQRSTUVWXYZ0123456789_")), .val (.str (Str.ofString "signed case u8 in list default bits choice record literal reserved check marked sum xor i8 length value")), .val (.str x), y, .val (.str z)]) ⟨x, y, ⟨hx.mono (by omega), hx0, .inr ⟨rfl, fun i h => absurd h (Nat.not_lt_zero i)⟩⟩, rfl⟩ ?_ ?_
    · rintro j d fr hj ⟨z, y, ⟨hz2, hz0, hfr⟩, rfl⟩
      obtain ⟨hj2, rfl⟩ := upto_at hj
      have e1 := in_strs hz2.1 hU
      obtain ⟨hc, e2, _⟩ := str_num2 (i := 0 + (j : Int)) (by omega) (by omega)
      have ec : iS (0 + (j : Int)) = iS (j : Int) := by rw [Int.zero_add]
      rw [ec] at hc e2
      generalize hcd : iS (j : Int) = c at *
      have hl := hx.2
      have hl2 := hc.2
      wp_walk using e1
      cases hb : us.any fun y => decide (y = z) with
      | true =>
        wp_walk using e2
        obtain ⟨q, hq, hq2⟩ := List.any_eq_true.mp hb
        have hq2 := of_decide_eq_true hq2
        rw [hq2] at hq
        rcases hfr with hfr | ⟨hz3, hfr⟩
        · exact absurd hq hfr
        · refine ⟨x ++ c, _, ⟨hx.app hc, by rw [str_app_len]; omega, .inr ⟨by rw [← hcd]; rfl, fun i hi => ?_⟩⟩, rfl⟩
          by_cases c : i = j
          · rw [c, ← hz3]; exact hq
          · exact hfr i (by omega)
      | false =>
        wp_walk
        refine ⟨z, _, ⟨hz2, hz0, .inl fun hm => ?_⟩, rfl⟩
        have : (us.any fun y => decide (y = z)) = true := List.any_eq_true.mpr ⟨z, hm, decide_eq_true rfl⟩
        rw [hb] at this; cases this
    · rintro fr ⟨z, y, ⟨hz2, hz0, hfr⟩, rfl⟩
      rw [upto_len] at hfr
      wp_walk
      refine ⟨z, _, rfl, ⟨⟨hz2.1, by have := hz2.2; omega, hz0⟩, ?_⟩, rfl, tp⟩
      rcases hfr with hfr | ⟨hz3, hfr⟩
      · exact hfr
      · rw [hz3]; exact cand_new hu hfr
theorem Rich.name (H : Rich P I) (hk : 1 < kk) {t : List D} (tp : Tp t) {us : List Str} (hu : us.length < 99) (hU : ∀ x ∈ us, PyData.strOk x = true) :
    CSat (callF P wn kk I.law_name [.own t, .own (us.map .str)]) fun s ps => ∃ (x : Str) (t' : List D), s = .val (.str x) ∧ (NmOk x ∧ x ∉ us) ∧ ps = [.own t', .own (us.map .str)] ∧ Tp t' := by
  obtain ⟨k, rfl⟩ : ∃ k, kk = k + 1 := ⟨kk - 1, by omega⟩
  rw [callF_succ P wn k H.law_name _ rfl]
  unfold F_law_name
  simp only [List.length_cons, List.length_nil, List.reduceReplicate, Nat.reduceSub, Nat.reduceAdd, List.cons_append, List.nil_append]
  wp_walk
  obtain ⟨r, t_r, e_r, tp, r0, r1, r2⟩ := H.draw (wn := wn) (kk := k) (by omega) tp (6) (by omega)
  replace r1 := r1 (by omega)
  wp_walk using e_r
  obtain ⟨d, ⟨nm, hn, rfl⟩, e⟩ := menuQ [.str (S' ""), .str (S' ""), .str (S' ""), .str (S' "reading_of_stat"), .str (S' "word"), .str (S' "word")] r (fun d => ∃ x : Str, NmL 15 x ∧ d = .str x)
    (all_c ⟨_, nmB_ok (by decide +kernel), rfl⟩ (all_c ⟨_, nmB_ok (by decide +kernel), rfl⟩ (all_c ⟨_, nmB_ok (by decide +kernel), rfl⟩ (all_c ⟨_, nmB_ok (by decide +kernel), rfl⟩ (all_c ⟨_, nmB_ok (by decide +kernel), rfl⟩ (all_c ⟨_, nmB_ok (by decide +kernel), rfl⟩ all_n)))))) r0 (by simp; omega)
  wp_walk using e
  have two : ∀ (nm : Str) (t : List D), NmL 15 nm → Tp t → CSat (endF [true, true] (evB P (callF P wn k) wn ((F_law_name I).body.drop 4) [.own t, .own (us.map .str), .val (.str (Str.ofString "abcdefghijklmnopqrstuvwxyzABCDEFGHIJKLMNOPQRSTUVWXYZ0123456789_")), .val (.str (Str.ofString "signed case u8 in list default bits choice record literal reserved check marked sum xor i8 length value")), .val (.str nm), .un, .un]))
      fun s ps => ∃ (x : Str) (t' : List D), s = .val (.str x) ∧ (NmOk x ∧ x ∉ us) ∧ ps = [.own t', .own (us.map .str)] ∧ Tp t' := by
    intro nm t hn tp
    have tail := fun (t : List D) (tp : Tp t) (nm : Str) (hn : NmL 16 nm) (h0 : 0 < nm.length) => H.name_tail (wn := wn) (k := k) (by omega) tp hu hU hn h0 .un .un
    rw [show (F_law_name I).body.drop 4 = .ite (.cmp .eq (.var 4) (.str "")) [
      .asg 4 (.ix (.var 2) (.call I.law_draw [.var 0, .int 52]))] [] :: (F_law_name I).body.drop 5 from rfl]
    generalize (F_law_name I).body.drop 5 = tl at tail
    wp_walk
    cases hb : decide (nm = Str.ofString "") with
    | true =>
      wp_walk
      obtain ⟨u, t_u, e_u, tp, u0, u1, u2⟩ := H.draw (wn := wn) (kk := k) (by omega) tp (52) (by omega)
      replace u1 := u1 (by omega)
      wp_walk using e_u
      obtain ⟨c, ⟨hc, hc0⟩, e⟩ := sign_ix u0 (by omega)
      wp_walk using e
      exact tail _ tp c (hc.mono (by omega)) hc0
    | false =>
      wp_walk
      exact tail _ tp nm (hn.mono (by omega)) (str_pos (of_decide_eq_false hb))
  cases hb : decide (nm = Str.ofString "word") with
  | true =>
    wp_walk using word_split
    obtain ⟨u, t_u, e_u, tp, u0, u1, u2⟩ := H.draw (wn := wn) (kk := k) (by omega) tp (18) (by omega)
    replace u1 := u1 (by omega)
    wp_walk using e_u
    obtain ⟨c, hc, e⟩ := word_ix u0 u1
    wp_walk using e
    exact two c _ hc tp
  | false =>
    wp_walk
    exact two nm _ hn tp
end
end MP

/-! MP: rich layouts: runs, ranges, numbers, parts. -/
namespace MP
open PySem L2
local macro_rules | `(tactic| wp_walk) => `(tactic| simp -implicitDefEqProofs (disch := first | assumption | omega | (simp only [List.length_cons, List.length_nil, List.length_map, List.length_append]; omega)) only [MP.bnd_ap, MP.bX_ok, MP.thenS_ap, MP.tX_ok, MP.seqS_nx, MP.seqS_rt, MP.seqS_bk, MP.seqS_ct, MP.ret_ap, MP.opt_some, MP.when_true, MP.evB_nil, MP.evB_cons, MP.evS_asg, MP.evS_asgT, MP.evS_aug, MP.evS_setix, MP.evS_par, MP.sets_nil, MP.sets_cons, MP.evS_ex, MP.evS_ite, MP.evS_for, MP.evS_whl, MP.evS_ret, MP.evS_retN, MP.evS_brk, MP.evS_cont, MP.evS_pass, MP.selS_true, MP.selS_false, MP.selM_true, MP.selM_false, MP.slK_ap, MP.itK_ap, MP.tru_ap, MP.fz_ap, MP.var_v, MP.var_t, MP.var_o, MP.var_i, MP.int_v, MP.int_o, MP.str_v, MP.str_o, MP.bl_v, MP.bl_o, MP.bl_t, MP.non_v, MP.non_o, MP.glo_v, MP.glo_o, MP.glo_i, MP.tup_v, MP.tup_o, MP.tup_i, MP.lst_v, MP.lst_o, MP.lst_i, MP.bin_v, MP.bin_o, MP.bin_t, MP.bin_i, MP.negK_int, MP.neg_v, MP.neg_o, MP.not_v, MP.not_t, MP.not_o, MP.isB_bl, MP.and_v, MP.and_t, MP.and_o, MP.or_v, MP.or_t, MP.or_o, MP.cmp_t, MP.cmp_v, MP.cmp_o, MP.cmp2_t, MP.cmp2_v, MP.cmp2_o, MP.ite_v, MP.ite_o, MP.ite_i, MP.kix_v, MP.kix_o, MP.ix_v, MP.ix_o, MP.ix_t, MP.ix_i, MP.sl_v, MP.sl_o, MP.sl_i, MP.rev_v, MP.rev_o, MP.rev_i, MP.revK_t, MP.revK_l, MP.call_v, MP.call_o, MP.call_t, MP.call_i, MP.bi_v, MP.bi_o, MP.bi_t, MP.bi_i, MP.isi_v, MP.isi_o, MP.isi_t, MP.app_v, MP.ext_v, MP.pop_v, MP.pop_o, MP.revm_v, MP.rng_i, MP.dic_v, MP.dic_o, MP.lrng_v, MP.lrng_o, MP.lrng_i, MP.enu_i, MP.lc_v, MP.lc_o, MP.lc_i, MP.evs_nil, MP.evs_cons, MP.vals_nil, MP.vals_cons, MP.opds_nil, MP.opds_cons, MP.rdOs_nil, MP.rdOs_cons, MP.args_nil, MP.args_t, MP.args_f, MP.rdO_at, MP.rdO_sl, MP.d_val, MP.d_own, MP.d_lk, MP.opAt_ap, MP.opAtS_val, MP.opAtS_own, MP.opAtS_lk, MP.cap_ap, MP.capS_some, MP.retV_var, MP.retS_own, MP.retS_val, MP.ownAt_ap, MP.ownS_own, MP.chg_ap, MP.chgS_own, MP.chgO_some, MP.setAt_int, MP.itO_at', MP.itS_own, MP.itS_val, MP.itO_sl', MP.part_nil, MP.part_cons, MP.partK_int, MP.extK_lst, MP.callM_ap, MP.endC_ok, MP.takes_nil, MP.takes_at, MP.takes_sl, MP.backs_at, MP.backs_sl, MP.backs_nil, MP.lent_t, MP.lent_f, MP.lent_n, MP.endF_rt, MP.endF_nx, MP.onFr_nx, MP.onFr_rt, MP.unlk_nil, MP.retV_int, MP.retV_str, MP.retV_bl, MP.retV_non, MP.retV_glo, MP.retV_tup, MP.retV_lst, MP.retV_dic, MP.retV_bin, MP.retV_neg, MP.retV_not, MP.retV_and, MP.retV_or, MP.retV_cmp, MP.retV_cmp2, MP.retV_ite, MP.retV_kix, MP.retV_ix, MP.retV_sl, MP.retV_rev, MP.retV_call, MP.retV_bi, MP.retV_isi, MP.retV_mt, MP.retV_pop, MP.retV_lrng, MP.retV_lc, MP.retV_fs, MP.sl0, MP.sl1, MP.sl2, MP.sl3, MP.sl4, MP.sl5, MP.sl6, MP.sl7, MP.sl8, MP.sl9, MP.sl10, MP.sl11, MP.set0, MP.set1, MP.set2, MP.set3, MP.set4, MP.set5, MP.set6, MP.set7, MP.set8, MP.set9, MP.set10, MP.set11, MP.add_i, MP.sub_i, MP.pow_i, MP.and_i, MP.or_i, MP.xor_i, MP.eq_i, MP.ne_i, MP.lt_i, MP.le_i, MP.gt_i, MP.ge_i, MP.eq_s, MP.ne_s, MP.ix_l, MP.ix_t', MP.len_l, MP.len_t, MP.abs_i, MP.int_i, MP.max_i, MP.min_i, MP.list_l, MP.list_t, MP.list_s, MP.tuple_l, MP.omap_some, MP.obind_some, decide_true, decide_false, MP.tr_bl, MP.isi_ii, MP.isi_ib, MP.turnO_ap, MP.asgT_v, MP.asgT_tup, MP.asgTs_nil, MP.asgTs_cons, MP.forK_ap, MP.lcM_ap, MP.lcStep_ap, MP.wipeF_nil, MP.wipeF_cons, MP.putF_nil, MP.putF_cons, MP.ifsM_nil, MP.ifsM_cons, MP.seqI_l, MP.seqI_t, MP.seqI_s, MP.sEq, MP.atI_0, MP.atI_1, MP.atI_2, MP.atI_3, MP.atI_4, MP.atI_5, MP.atI_6, MP.atI_mapp, MP.atI_m1, MP.sz_if, MP.dlt_t, MP.dlt_f, MP.dle_t, MP.dle_f, MP.beq_t, MP.beq_f, MP.bne_t, MP.bne_f, MP.mul_okr, MP.mul_okl, MP.fdiv_ok, MP.mod_ok, MP.shl1_ok, MP.shl_ok, MP.shr_ok, MP.add_t, MP.add_lo, MP.add_so, MP.app_ok, MP.ext_ok, MP.rng1_ok, MP.rng2_ok, MP.eq_n, MP.ne_n, MP.isN_n, MP.isN_i, MP.isN_s, MP.isN_t, MP.isN_l, MP.isN_b, MP.tr_t, MP.tr_l, MP.tr_i, MP.kix_s, MP.look_c, MP.look_n, MP.ixd, MP.key_i, MP.key_s, MP.dl_c, MP.sum_ii, MP.sum_ss, MP.isi_tt, MP.isi_tl, MP.isi_ts, MP.isi_tb, MP.isi_ti, MP.isi_ll, MP.isi_lt, MP.isi_ss, MP.isi_st, MP.isi_sl, MP.isi_sb, MP.isi_si, MP.isi_is, MP.isi_it, MP.isi_il, MP.isi_bb, MP.isi_bi, MP.isi_bt, MP.isi_blx, MP.isi_nt, MP.isi_nl, MP.isi_nb, MP.isi_ni, MP.isi_ns, MP.eq_b, MP.sl12, MP.sl13, MP.sl14, MP.set12, MP.set13, MP.set14, MP.lc_t, MP.part_mn, MP.part_mc, MP.enuOk_l, MP.enuOk_t, MP.zip_i, MP.zipV_ll, MP.zipV_lt, MP.zipV_tl, MP.zipV_tt, MP.fs_v, MP.fs_o, MP.fsM_n, MP.fsM_c, MP.strOf_s, MP.sl_t, MP.sl_l, MP.mt_v, MP.mt_o, MP.mt_t, MP.mt_i, MP.ty_split, MP.ty_endswith, MP.ty_startswith, MP.ty_join, MP.ty_index, MP.ty_get, MP.csat_ok, MP.tsat_nx, MP.tsat_ct, MP.unlk_c, ↓reduceIte, String.reduceEq, Int.reduceEq, Int.reduceLT, Int.reduceLE, Int.reduceAdd, Int.reduceSub, Int.reduceMul, Int.reduceNeg, Int.reduceToNat, Nat.reduceAdd, Nat.reduceSub, List.length_cons, List.length_nil, Int.one_mul, Bool.not_true, Bool.not_false, Bool.and_true, Bool.true_and, Bool.and_false, Bool.false_and, Bool.or_true, Bool.true_or, Bool.or_false, Bool.false_or, List.isEmpty_cons, List.isEmpty_nil, List.cons_append, List.nil_append, List.append_nil, MP.Rich.io_law_tape, MP.Rich.io_law_draw, MP.Rich.io_law_name, MP.Rich.io_law_runs, MP.Rich.io_law_size, MP.Rich.io_law_any_word, MP.Rich.io_law_a_count, MP.Rich.io_law_a_field, MP.Rich.io_law_ranges, MP.Rich.io_law_a_number, MP.Rich.io_law_part, MP.Rich.io_law_case_numbers, MP.Rich.io_law_not_empty, MP.Rich.io_law_rich, MP.Rich.io_law_rich_item, MP.Rich.io_law_fixed, MP.Rich.io_law_rich_word, MP.Rich.io_law_rich_choice])
local macro_rules | `(tactic| wp_walk using $ts:term,*) => `(tactic| simp -implicitDefEqProofs (disch := first | assumption | omega | (simp only [List.length_cons, List.length_nil, List.length_map, List.length_append]; omega)) only [MP.bnd_ap, MP.bX_ok, MP.thenS_ap, MP.tX_ok, MP.seqS_nx, MP.seqS_rt, MP.seqS_bk, MP.seqS_ct, MP.ret_ap, MP.opt_some, MP.when_true, MP.evB_nil, MP.evB_cons, MP.evS_asg, MP.evS_asgT, MP.evS_aug, MP.evS_setix, MP.evS_par, MP.sets_nil, MP.sets_cons, MP.evS_ex, MP.evS_ite, MP.evS_for, MP.evS_whl, MP.evS_ret, MP.evS_retN, MP.evS_brk, MP.evS_cont, MP.evS_pass, MP.selS_true, MP.selS_false, MP.selM_true, MP.selM_false, MP.slK_ap, MP.itK_ap, MP.tru_ap, MP.fz_ap, MP.var_v, MP.var_t, MP.var_o, MP.var_i, MP.int_v, MP.int_o, MP.str_v, MP.str_o, MP.bl_v, MP.bl_o, MP.bl_t, MP.non_v, MP.non_o, MP.glo_v, MP.glo_o, MP.glo_i, MP.tup_v, MP.tup_o, MP.tup_i, MP.lst_v, MP.lst_o, MP.lst_i, MP.bin_v, MP.bin_o, MP.bin_t, MP.bin_i, MP.negK_int, MP.neg_v, MP.neg_o, MP.not_v, MP.not_t, MP.not_o, MP.isB_bl, MP.and_v, MP.and_t, MP.and_o, MP.or_v, MP.or_t, MP.or_o, MP.cmp_t, MP.cmp_v, MP.cmp_o, MP.cmp2_t, MP.cmp2_v, MP.cmp2_o, MP.ite_v, MP.ite_o, MP.ite_i, MP.kix_v, MP.kix_o, MP.ix_v, MP.ix_o, MP.ix_t, MP.ix_i, MP.sl_v, MP.sl_o, MP.sl_i, MP.rev_v, MP.rev_o, MP.rev_i, MP.revK_t, MP.revK_l, MP.call_v, MP.call_o, MP.call_t, MP.call_i, MP.bi_v, MP.bi_o, MP.bi_t, MP.bi_i, MP.isi_v, MP.isi_o, MP.isi_t, MP.app_v, MP.ext_v, MP.pop_v, MP.pop_o, MP.revm_v, MP.rng_i, MP.dic_v, MP.dic_o, MP.lrng_v, MP.lrng_o, MP.lrng_i, MP.enu_i, MP.lc_v, MP.lc_o, MP.lc_i, MP.evs_nil, MP.evs_cons, MP.vals_nil, MP.vals_cons, MP.opds_nil, MP.opds_cons, MP.rdOs_nil, MP.rdOs_cons, MP.args_nil, MP.args_t, MP.args_f, MP.rdO_at, MP.rdO_sl, MP.d_val, MP.d_own, MP.d_lk, MP.opAt_ap, MP.opAtS_val, MP.opAtS_own, MP.opAtS_lk, MP.cap_ap, MP.capS_some, MP.retV_var, MP.retS_own, MP.retS_val, MP.ownAt_ap, MP.ownS_own, MP.chg_ap, MP.chgS_own, MP.chgO_some, MP.setAt_int, MP.itO_at', MP.itS_own, MP.itS_val, MP.itO_sl', MP.part_nil, MP.part_cons, MP.partK_int, MP.extK_lst, MP.callM_ap, MP.endC_ok, MP.takes_nil, MP.takes_at, MP.takes_sl, MP.backs_at, MP.backs_sl, MP.backs_nil, MP.lent_t, MP.lent_f, MP.lent_n, MP.endF_rt, MP.endF_nx, MP.onFr_nx, MP.onFr_rt, MP.unlk_nil, MP.retV_int, MP.retV_str, MP.retV_bl, MP.retV_non, MP.retV_glo, MP.retV_tup, MP.retV_lst, MP.retV_dic, MP.retV_bin, MP.retV_neg, MP.retV_not, MP.retV_and, MP.retV_or, MP.retV_cmp, MP.retV_cmp2, MP.retV_ite, MP.retV_kix, MP.retV_ix, MP.retV_sl, MP.retV_rev, MP.retV_call, MP.retV_bi, MP.retV_isi, MP.retV_mt, MP.retV_pop, MP.retV_lrng, MP.retV_lc, MP.retV_fs, MP.sl0, MP.sl1, MP.sl2, MP.sl3, MP.sl4, MP.sl5, MP.sl6, MP.sl7, MP.sl8, MP.sl9, MP.sl10, MP.sl11, MP.set0, MP.set1, MP.set2, MP.set3, MP.set4, MP.set5, MP.set6, MP.set7, MP.set8, MP.set9, MP.set10, MP.set11, MP.add_i, MP.sub_i, MP.pow_i, MP.and_i, MP.or_i, MP.xor_i, MP.eq_i, MP.ne_i, MP.lt_i, MP.le_i, MP.gt_i, MP.ge_i, MP.eq_s, MP.ne_s, MP.ix_l, MP.ix_t', MP.len_l, MP.len_t, MP.abs_i, MP.int_i, MP.max_i, MP.min_i, MP.list_l, MP.list_t, MP.list_s, MP.tuple_l, MP.omap_some, MP.obind_some, decide_true, decide_false, MP.tr_bl, MP.isi_ii, MP.isi_ib, MP.turnO_ap, MP.asgT_v, MP.asgT_tup, MP.asgTs_nil, MP.asgTs_cons, MP.forK_ap, MP.lcM_ap, MP.lcStep_ap, MP.wipeF_nil, MP.wipeF_cons, MP.putF_nil, MP.putF_cons, MP.ifsM_nil, MP.ifsM_cons, MP.seqI_l, MP.seqI_t, MP.seqI_s, MP.sEq, MP.atI_0, MP.atI_1, MP.atI_2, MP.atI_3, MP.atI_4, MP.atI_5, MP.atI_6, MP.atI_mapp, MP.atI_m1, MP.sz_if, MP.dlt_t, MP.dlt_f, MP.dle_t, MP.dle_f, MP.beq_t, MP.beq_f, MP.bne_t, MP.bne_f, MP.mul_okr, MP.mul_okl, MP.fdiv_ok, MP.mod_ok, MP.shl1_ok, MP.shl_ok, MP.shr_ok, MP.add_t, MP.add_lo, MP.add_so, MP.app_ok, MP.ext_ok, MP.rng1_ok, MP.rng2_ok, MP.eq_n, MP.ne_n, MP.isN_n, MP.isN_i, MP.isN_s, MP.isN_t, MP.isN_l, MP.isN_b, MP.tr_t, MP.tr_l, MP.tr_i, MP.kix_s, MP.look_c, MP.look_n, MP.ixd, MP.key_i, MP.key_s, MP.dl_c, MP.sum_ii, MP.sum_ss, MP.isi_tt, MP.isi_tl, MP.isi_ts, MP.isi_tb, MP.isi_ti, MP.isi_ll, MP.isi_lt, MP.isi_ss, MP.isi_st, MP.isi_sl, MP.isi_sb, MP.isi_si, MP.isi_is, MP.isi_it, MP.isi_il, MP.isi_bb, MP.isi_bi, MP.isi_bt, MP.isi_blx, MP.isi_nt, MP.isi_nl, MP.isi_nb, MP.isi_ni, MP.isi_ns, MP.eq_b, MP.sl12, MP.sl13, MP.sl14, MP.set12, MP.set13, MP.set14, MP.lc_t, MP.part_mn, MP.part_mc, MP.enuOk_l, MP.enuOk_t, MP.zip_i, MP.zipV_ll, MP.zipV_lt, MP.zipV_tl, MP.zipV_tt, MP.fs_v, MP.fs_o, MP.fsM_n, MP.fsM_c, MP.strOf_s, MP.sl_t, MP.sl_l, MP.mt_v, MP.mt_o, MP.mt_t, MP.mt_i, MP.ty_split, MP.ty_endswith, MP.ty_startswith, MP.ty_join, MP.ty_index, MP.ty_get, MP.csat_ok, MP.tsat_nx, MP.tsat_ct, MP.unlk_c, ↓reduceIte, String.reduceEq, Int.reduceEq, Int.reduceLT, Int.reduceLE, Int.reduceAdd, Int.reduceSub, Int.reduceMul, Int.reduceNeg, Int.reduceToNat, Nat.reduceAdd, Nat.reduceSub, List.length_cons, List.length_nil, Int.one_mul, Bool.not_true, Bool.not_false, Bool.and_true, Bool.true_and, Bool.and_false, Bool.false_and, Bool.or_true, Bool.true_or, Bool.or_false, Bool.false_or, List.isEmpty_cons, List.isEmpty_nil, List.cons_append, List.nil_append, List.append_nil, MP.Rich.io_law_tape, MP.Rich.io_law_draw, MP.Rich.io_law_name, MP.Rich.io_law_runs, MP.Rich.io_law_size, MP.Rich.io_law_any_word, MP.Rich.io_law_a_count, MP.Rich.io_law_a_field, MP.Rich.io_law_ranges, MP.Rich.io_law_a_number, MP.Rich.io_law_part, MP.Rich.io_law_case_numbers, MP.Rich.io_law_not_empty, MP.Rich.io_law_rich, MP.Rich.io_law_rich_item, MP.Rich.io_law_fixed, MP.Rich.io_law_rich_word, MP.Rich.io_law_rich_choice, $[$ts:term],*])
theorem nil_or_app {α : Type} (l : List α) : l = [] ∨ ∃ m b, l = m ++ [b] := by
  rcases List.eq_nil_or_concat l with h | ⟨m, b, h⟩
  · exact .inl h
  · exact .inr ⟨m, b, by rw [h, List.concat_eq_append]⟩
theorem ne_app {α : Type} (m : List α) (b : α) : (m ++ [b]).isEmpty = false := by cases m <;> rfl
theorem set_last {α : Type} (m : List D) (q d : D) (s : α) : (ixN (m ++ [q]).length (-1)).map (fun j => (s, (m ++ [q]).set j d)) = some (s, m ++ [d]) := by
  have hl : (m ++ [q]).length = m.length + 1 := by simp
  have e : ixN (m ++ [q]).length (-1) = some m.length := by
    rw [hl]
    unfold ixN
    rw [if_neg (by omega), if_pos (by omega)]
    congr 1; omega
  rw [e]
  show some (s, (m ++ [q]).set m.length d) = _
  rw [List.set_append_right _ _ (Nat.le_refl _), Nat.sub_self]; rfl
theorem runS_nil (n : Int) : runS [] n = [(n, n)] := rfl
theorem runS_app (m : Rs) (p : Int × Int) (n : Int) : runS (m ++ [p]) n = if p.2 = n - 1 then m ++ [(p.1, n)] else (m ++ [p]) ++ [(n, n)] := by
  unfold runS
  rw [List.getLast?_append, List.getLast?_singleton, List.dropLast_concat]; rfl
theorem runS_len (l : Rs) (n : Int) : (runS l n).length ≤ l.length + 1 ∧ runS l n ≠ [] := by
  rcases nil_or_app l with rfl | ⟨m, p, rfl⟩
  · exact ⟨by simp [runS_nil], by simp [runS_nil]⟩
  · rw [runS_app]; split
    · exact ⟨by simp, by simp⟩
    · exact ⟨by simp, by simp⟩
theorem runsV_snoc (ns : List Int) (n : Int) : runsV (ns ++ [n]) = runS (runsV ns) n := by unfold runsV; rw [List.foldl_append]; rfl
theorem runsV_len (ns : List Int) : (runsV ns).length ≤ ns.length ∧ (ns ≠ [] → runsV ns ≠ []) := by
  have key : ∀ (k : Nat) (ns : List Int), ns.length = k → (runsV ns).length ≤ ns.length ∧ (ns ≠ [] → runsV ns ≠ []) := fun k => by
    induction k with
    | zero => intro ns h; rw [List.length_eq_zero_iff.mp h]; exact ⟨Nat.le_refl _, fun h => absurd rfl h⟩
    | succ k ih =>
      intro ns h
      rcases nil_or_app ns with rfl | ⟨m, b, rfl⟩
      · cases h
      · have := ih m (by simp at h; exact h)
        rw [runsV_snoc]
        have h2 := runS_len (runsV m) b
        exact ⟨by simp; omega, fun _ => h2.2⟩
  exact key _ ns rfl
theorem take_snoc {α : Type} {ns : List α} {j : Nat} {n : α} (h : ns[j]? = some n) : ns.take (j + 1) = ns.take j ++ [n] := by
  rw [List.take_add_one, h]; rfl
theorem map_ix {α β : Type} {f : α → β} {ns : List α} {j : Nat} {d : β} (h : (ns.map f)[j]? = some d) : ∃ n, ns[j]? = some n ∧ d = f n := by
  rw [List.getElem?_map] at h
  cases e : ns[j]? with
  | none => rw [e] at h; cases h
  | some n => rw [e] at h; exact ⟨n, rfl, (Option.some.inj h).symm⟩
theorem intsOf_map : ∀ ns : List Int, intsOf (ns.map D.int) = some ns
  | [] => rfl
  | n :: ns => by
    show (intsOf (ns.map D.int)).map (n :: ·) = _
    rw [intsOf_map ns]; rfl
theorem sorted_ints (ns : List Int) : bi .sorted [.lst (ns.map D.int)] = some (.own ((isort ns).map .int)) := by
  show (intsOf (ns.map D.int)).map (fun ns => Slot.own ((isort ns).map .int)) = _
  rw [intsOf_map]; rfl
theorem isort_perm (ns : List Int) : (isort ns).Perm ns := List.mergeSort_perm _ _
theorem isort_pw (ns : List Int) : (isort ns).Pairwise (· ≤ ·) := by
  have := List.pairwise_mergeSort (le := fun a b : Int => decide (a ≤ b)) (fun a b c => by simp only [decide_eq_true_eq]; omega) (fun a b => by simp only [Bool.or_eq_true, decide_eq_true_eq]; omega) ns
  exact this.imp fun h => of_decide_eq_true h
theorem isort_lt {ns : List Int} (h : ns.Nodup) : (isort ns).Pairwise (· < ·) := by
  have h1 := isort_pw ns
  have h2 : (isort ns).Pairwise (· ≠ ·) := (isort_perm ns).nodup_iff.mpr h
  exact (h1.and h2).imp fun h => by omega
theorem deps_int : ∀ ns : List Int, D.deps (ns.map .int) = some 0
  | [] => rfl
  | x :: ns => by
    show (match D.dep (.int x), D.deps (ns.map .int) with | some a, some b => some (max a b) | _, _ => none) = _
    rw [deps_int ns]; rfl
theorem notin_ints (a : Int) (ns : List Int) : cmpop .notin (.int a) (.lst (ns.map .int)) = some (!decide (a ∈ ns)) := by
  have e2 : D.shal (.lst (ns.map .int)) = true := by
    unfold D.shal
    rw [show D.dep (.lst (ns.map .int)) = (D.deps (ns.map .int)).map (· + 1) from rfl, deps_int ns]; rfl
  show when (D.shal (.int a) && D.shal (.lst (ns.map .int))) (!inB (.int a) (ns.map .int)) = _
  rw [e2]
  show some (!inB (.int a) (ns.map .int)) = _
  have : inB (.int a) (ns.map .int) = decide (a ∈ ns) := by
    unfold inB
    rw [List.any_map, Bool.eq_iff_iff, List.any_eq_true, decide_eq_true_eq]
    constructor
    · rintro ⟨x, hx, h⟩
      have h : (x == a) = true := h
      rw [← eq_of_beq h]; exact hx
    · intro h
      exact ⟨a, h, show (a == a) = true by simp⟩
  rw [this]
def intL (lo : Int) (n : Nat) : List Int := (List.range n).map fun (i : Nat) => lo + i
theorem upto_ints (lo : Int) (n : Nat) : upto lo n = (intL lo n).map D.int := by
  rw [upto_eq]; unfold intL; rw [List.map_map]; rfl
theorem ints_len (lo : Int) (n : Nat) : (intL lo n).length = n := by unfold intL; simp
theorem ints_mem {lo : Int} {n : Nat} {x : Int} (h : x ∈ intL lo n) : lo ≤ x ∧ x < lo + n := by
  unfold intL at h
  obtain ⟨i, hi, rfl⟩ := List.mem_map.mp h
  have := List.mem_range.mp hi
  omega
theorem ints_nd (lo : Int) (n : Nat) : (intL lo n).Nodup := by
  unfold intL List.Nodup
  rw [List.pairwise_map]
  exact List.nodup_range.imp fun h => by omega
section
variable {P : Prg} {I : Ix} {wn kk : Nat}
theorem Rich.runs (H : Rich P I) (hk : 0 < kk) (ns : List Int) (hl : ns.length ≤ 1000) : callF P wn kk I.law_runs [.own (ns.map D.int)] = .ok (.val (.tup ((runsV ns).map prD))) [.un] := by
  suffices h : CSat (callF P wn kk I.law_runs [.own (ns.map D.int)]) fun s ps => s = .val (.tup ((runsV ns).map prD)) ∧ ps = [.un] by
    obtain ⟨s, ps, e, rfl, rfl⟩ := h.get; exact e
  obtain ⟨k, rfl⟩ : ∃ k, kk = k + 1 := ⟨kk - 1, by omega⟩
  rw [callF_succ P wn k H.law_runs _ rfl]
  unfold F_law_runs
  simp only [List.length_cons, List.length_nil, List.reduceReplicate, Nat.reduceSub, Nat.reduceAdd, List.cons_append, List.nil_append]
  wp_walk
  refine for_t (G := fun z => CSat (endF _ (qX _ (onFr _ z))) _) (fun j fr => ∃ y : Slot, fr = [.lk (ns.map D.int), .own ((runsV (ns.take j)).map prD), y]) ⟨.un, by rw [List.take_zero]; rfl⟩ ?_ ?_
  · rintro j d fr hj ⟨y, rfl⟩
    obtain ⟨n, hn, rfl⟩ := map_ix hj
    have hl2 := (runsV_len (ns.take j)).1
    rw [List.length_take] at hl2
    rw [take_snoc hn, runsV_snoc]
    generalize runsV (ns.take j) = l at *
    rcases nil_or_app l with rfl | ⟨m, p, rfl⟩
    · wp_walk using List.map_nil, runS_nil, List.map_cons
      exact ⟨_, rfl⟩
    · rw [runS_app]
      have hl3 : (List.map prD m ++ [D.tup [D.int p.1, D.int p.2]]).length < 1000000 := by simp at hl2 ⊢; omega
      by_cases c : p.2 = n - 1
      · rw [if_pos c]
        wp_walk using List.map_append, List.map_cons, List.map_nil, ne_app, prD, set_last
        exact ⟨_, rfl⟩
      · rw [if_neg c]
        wp_walk using List.map_append, List.map_cons, List.map_nil, ne_app, prD
        exact ⟨_, rfl⟩
  · rintro fr ⟨y, rfl⟩
    rw [List.length_map, List.take_length]
    wp_walk
    trivial
theorem pw8 {w : Int} (h0 : 1 ≤ w) (h1 : w ≤ 8) : ∃ sp : Int, (2 : Int) ^ w.toNat = sp ∧ 2 ≤ sp ∧ sp ≤ 256 ∧ (2 : Int) ^ (w - 1).toNat = sp / 2 ∧ sp = 2 * (sp / 2) := by
  have : w = 1 ∨ w = 2 ∨ w = 3 ∨ w = 4 ∨ w = 5 ∨ w = 6 ∨ w = 7 ∨ w = 8 := by omega
  rcases this with rfl | rfl | rfl | rfl | rfl | rfl | rfl | rfl <;> exact ⟨_, rfl, by decide, by decide, by decide, by decide⟩
theorem Rich.ranges_tail (H : Rich P I) {k : Nat} (hk : 0 < k) {t : List D} (tp : Tp t) {w sp : Int} {sg : Bool} (hw : 1 ≤ w) (hw8 : w ≤ 8) (hsp : (2 : Int) ^ w.toNat = sp) (hs0 : 2 ≤ sp) (hs1 : sp ≤ 256) (hsh : (2 : Int) ^ (w - 1).toNat = sp / 2) (hev : sp = 2 * (sp / 2))
    {a : Int} (ha : 0 ≤ a) (ha1 : a < sp) {ns : List Int} (hn : ns ≠ []) (hl : ns.length ≤ 256) (hm : ∀ n ∈ ns, 0 ≤ n ∧ n < sp) (hd : ns.Nodup) :
    CSat (endF [true, false, false, false] (evB P (callF P wn k) wn ((F_law_ranges I).body.drop 5) [.own t, .val (.int w), .val (.bl sg), .val (.int 0), .val (.int sp), .val (.int a), .own (ns.map D.int), .un, .un, .un]))
      fun s ps => ∃ (rs : Option Rs) (t' : List D), s = .val (rsD rs) ∧ RsOk w sg rs ∧ ps = [.own t', .un, .un, .un] ∧ Tp t' := by
  unfold F_law_ranges
  simp only [List.drop_succ_cons, List.drop_zero]
  wp_walk
  obtain ⟨r, t_r, e_r, tp, r0, r1, r2⟩ := H.draw (wn := wn) (kk := k) (by omega) tp (4) (by omega)
  replace r1 := r1 (by omega)
  wp_walk using e_r
  refine for_t (G := fun z => CSat (endF _ (qX _ (onFr _ z))) _) (fun j fr => ∃ (t' : List D) (a : Int) (ms : List Int) (y : Slot), Tp t' ∧ 0 ≤ a ∧ a < sp ∧ ms ≠ [] ∧ ms.length ≤ 256 + j ∧ (∀ n ∈ ms, 0 ≤ n ∧ n < sp) ∧ ms.Nodup ∧
      fr = [.own t', .val (.int w), .val (.bl sg), .val (.int 0), .val (.int sp), .val (.int a), .own (ms.map D.int), y, .un, .un]) ⟨_, a, ns, .un, tp, ha, ha1, hn, hl, hm, hd, rfl⟩ ?_ ?_
  · rintro j d fr hj ⟨t', a, ms, y, tp, ha, ha1, hn, hl, hm, hd, rfl⟩
    have hj2 := (upto_at hj).1
    wp_walk
    obtain ⟨u, t_u, e_u, tp, u0, u1, u2⟩ := H.draw (wn := wn) (kk := k) (by omega) tp (6) (by omega)
    replace u1 := u1 (by omega)
    wp_walk using e_u
    obtain ⟨m, m0, m1, e_m⟩ := imenu [1, 1, 2, 7, sp / 2, 1 + sp / 4] u (0) (300) (by intro x hx; simp only [List.mem_cons, List.not_mem_nil, or_false] at hx; omega) (by omega) (by simp only [List.length_cons, List.length_nil]; omega)
    simp only [List.map_cons, List.map_nil] at e_m
    wp_walk using e_m
    have b0 := Int.emod_nonneg (a + m) (b := sp) (by omega)
    have b1 := Int.emod_lt_of_pos (a + m) (b := sp) (by omega)
    generalize (a + m) % sp = b at *
    have hz : (ms.map D.int).length = ms.length := List.length_map ..
    wp_walk using notin_ints
    cases hb : decide (b ∈ ms) with
    | true =>
      wp_walk
      exact ⟨_, b, ms, _, tp, b0, b1, hn, by omega, hm, hd, rfl⟩
    | false =>
      have hnb := of_decide_eq_false hb
      wp_walk using hz
      refine ⟨_, b, ms ++ [b], _, tp, b0, b1, by simp, by simp; omega, fun n h => ?_, ?_, by rw [List.map_append]; rfl⟩
      · rcases List.mem_append.mp h with h | h
        · exact hm n h
        · rw [List.mem_singleton.mp h]; exact ⟨b0, b1⟩
      · rw [List.nodup_append]
        refine ⟨hd, by simp, fun x hx y hy e => ?_⟩
        rw [List.mem_singleton.mp hy] at e
        rw [e] at hx; exact hnb hx
  · rintro fr ⟨t', a, ms, y, tp, ha, ha1, hn, hl, hm, hd, rfl⟩
    rw [upto_len] at hl
    have hl : ms.length ≤ 260 := by omega
    have hp := isort_perm ms
    have fin : ∀ lo : Int, lo = (if sg then sp / 2 else 0) → RsOk w sg (some (runsV ((isort ms).map (· - lo)))) := fun lo hlo l e => by
      cases e
      refine ⟨hw8, (isort ms).map (· - lo), ?_, ?_, ?_, ?_, rfl⟩
      · intro e
        have h2 : isort ms = [] := by simpa using e
        rw [h2] at hp
        exact hn hp.symm.eq_nil
      · rw [List.length_map, hp.length_eq]; omega
      · rw [List.pairwise_map]
        exact (isort_lt hd).imp fun h => by omega
      · intro n h
        obtain ⟨x, hx, rfl⟩ := List.mem_map.mp h
        have := hm x (hp.mem_iff.mp hx)
        unfold fLo fHi
        rw [hsh, hsp]
        subst hlo
        cases sg
        · rw [if_neg (by decide), if_neg (by decide), if_neg (by decide)]; omega
        · rw [if_pos rfl, if_pos rfl, if_pos rfl]; omega
    have e1 := fun lo : Int => lc_map (isort ms) D.int (fun n => D.int (n - lo)) (own := [9]) (tgt := asgT (.v 9)) (ifs := ifsM []) (el := bnd (fz (ev P (callF P wn k) (.bin .sub (.var 9) (.var 8))).v) fun d => ret [d])
      (fr := [.own t', .val (.int w), .val (.bl sg), .val (.int 0), .val (.int sp), .val (.int a), .own (ms.map D.int), y, .val (.int lo), .un]) (lk := []) (fun n _ => by
        wp_walk
        exact ⟨_, rfl, rfl⟩) (by rw [hp.length_eq]; omega)
    have e2 : ∀ lo : Int, (isort ms).map (fun n => D.int (n - lo)) = ((isort ms).map (· - lo)).map D.int := fun lo => by rw [List.map_map]; rfl
    have e3 := fun lo : Int => H.runs (wn := wn) (kk := k) hk ((isort ms).map (· - lo)) (by rw [List.length_map, hp.length_eq]; omega)
    cases sg with
    | true =>
      wp_walk using sorted_ints, e1, e2, e3
      exact ⟨some _, t', rfl, fin _ rfl, rfl, tp⟩
    | false =>
      wp_walk using sorted_ints, e1, e2, e3
      exact ⟨some _, t', rfl, fin _ rfl, rfl, tp⟩
theorem Rich.ranges (H : Rich P I) (hk : 1 < kk) {t : List D} (tp : Tp t) {w : Int} {sg : Bool} (hw : 1 ≤ w) (hw2 : w ≤ 32) :
    CSat (callF P wn kk I.law_ranges [.own t, .val (.int w), .val (.bl sg), .val (.int 0)]) fun s ps => ∃ (rs : Option Rs) (t' : List D), s = .val (rsD rs) ∧ RsOk w sg rs ∧ ps = [.own t', .un, .un, .un] ∧ Tp t' := by
  obtain ⟨k, rfl⟩ : ∃ k, kk = k + 1 := ⟨kk - 1, by omega⟩
  rw [callF_succ P wn k H.law_ranges _ rfl]
  have tail := fun {t : List D} (tp : Tp t) (sp : Int) => H.ranges_tail (wn := wn) (k := k) (by omega) tp (w := w) (sp := sp) (sg := sg)
  have none_ok : RsOk w sg none := fun l e => by cases e
  by_cases c : w > 8
  · unfold F_law_ranges
    simp only [List.length_cons, List.length_nil, List.reduceReplicate, Nat.reduceSub, Nat.reduceAdd, List.cons_append, List.nil_append]
    wp_walk
    exact ⟨none, t, rfl, none_ok, rfl, tp⟩
  · obtain ⟨sp, hsp, hs0, hs1, hsh, hev⟩ := pw8 hw (by omega)
    have eb : (F_law_ranges I).body = (F_law_ranges I).body.take 5 ++ (F_law_ranges I).body.drop 5 := rfl
    generalize (F_law_ranges I).body.drop 5 = tl at *
    rw [eb]
    unfold F_law_ranges
    simp only [List.length_cons, List.length_nil, List.reduceReplicate, Nat.reduceSub, Nat.reduceAdd, List.cons_append, List.nil_append, List.take_succ_cons, List.take_zero]
    wp_walk using hsp
    obtain ⟨r, t_r, e_r, tp, r0, r1, r2⟩ := H.draw (wn := wn) (kk := k) (by omega) tp (2) (by omega)
    replace r1 := r1 (by omega)
    wp_walk using e_r
    by_cases c2 : r = 0
    · wp_walk
      exact ⟨none, _, rfl, none_ok, rfl, tp⟩
    · wp_walk
      obtain ⟨a, t_a, e_a, tp, a0, a1, a2⟩ := H.draw (wn := wn) (kk := k) (by omega) tp (sp) (by omega)
      replace a1 := a1 (by omega)
      wp_walk using e_a
      obtain ⟨b, t_b, e_b, tp, b0, b1, b2⟩ := H.draw (wn := wn) (kk := k) (by omega) tp (2) (by omega)
      replace b1 := b1 (by omega)
      wp_walk using e_b
      by_cases c3 : b = 0
      · wp_walk
        obtain ⟨d, t_d, e_d, tp, d0, d1, d2⟩ := H.draw (wn := wn) (kk := k) (by omega) tp (sp - a) (by omega)
        replace d1 := d1 (by omega)
        wp_walk using e_d
        have hle : (intL a (a + 1 + d - a).toNat).length ≤ 256 := by rw [ints_len]; omega
        have hz : ((intL a (a + 1 + d - a).toNat).map D.int).length ≤ 1000000 := by rw [List.length_map]; omega
        wp_walk using upto_ints
        refine tail tp sp hw (by omega) hsp hs0 hs1 hsh hev (ns := intL a (a + 1 + d - a).toNat) a0 a1 (fun e => ?_) hle (fun n h => ?_) (ints_nd _ _)
        · have := congrArg List.length e
          rw [ints_len] at this
          have : (a + 1 + d - a).toNat = 0 := this
          omega
        · have := ints_mem h
          omega
      · wp_walk
        exact tail tp sp hw (by omega) hsp hs0 hs1 hsh hev (ns := [a]) a0 a1 (by simp) (by simp) (fun n h => by rw [List.mem_singleton.mp h]; exact ⟨a0, a1⟩) (by simp)
end
end MP

/-! MP: rich layouts: fields, numbers, parts, words. -/
namespace MP
open PySem L2
local macro_rules | `(tactic| wp_walk) => `(tactic| simp -implicitDefEqProofs (disch := first | assumption | omega | (simp only [List.length_cons, List.length_nil, List.length_map, List.length_append]; omega)) only [MP.bnd_ap, MP.bX_ok, MP.thenS_ap, MP.tX_ok, MP.seqS_nx, MP.seqS_rt, MP.seqS_bk, MP.seqS_ct, MP.ret_ap, MP.opt_some, MP.when_true, MP.evB_nil, MP.evB_cons, MP.evS_asg, MP.evS_asgT, MP.evS_aug, MP.evS_setix, MP.evS_par, MP.sets_nil, MP.sets_cons, MP.evS_ex, MP.evS_ite, MP.evS_for, MP.evS_whl, MP.evS_ret, MP.evS_retN, MP.evS_brk, MP.evS_cont, MP.evS_pass, MP.selS_true, MP.selS_false, MP.selM_true, MP.selM_false, MP.slK_ap, MP.itK_ap, MP.tru_ap, MP.fz_ap, MP.var_v, MP.var_t, MP.var_o, MP.var_i, MP.int_v, MP.int_o, MP.str_v, MP.str_o, MP.bl_v, MP.bl_o, MP.bl_t, MP.non_v, MP.non_o, MP.glo_v, MP.glo_o, MP.glo_i, MP.tup_v, MP.tup_o, MP.tup_i, MP.lst_v, MP.lst_o, MP.lst_i, MP.bin_v, MP.bin_o, MP.bin_t, MP.bin_i, MP.negK_int, MP.neg_v, MP.neg_o, MP.not_v, MP.not_t, MP.not_o, MP.isB_bl, MP.and_v, MP.and_t, MP.and_o, MP.or_v, MP.or_t, MP.or_o, MP.cmp_t, MP.cmp_v, MP.cmp_o, MP.cmp2_t, MP.cmp2_v, MP.cmp2_o, MP.ite_v, MP.ite_o, MP.ite_i, MP.kix_v, MP.kix_o, MP.ix_v, MP.ix_o, MP.ix_t, MP.ix_i, MP.sl_v, MP.sl_o, MP.sl_i, MP.rev_v, MP.rev_o, MP.rev_i, MP.revK_t, MP.revK_l, MP.call_v, MP.call_o, MP.call_t, MP.call_i, MP.bi_v, MP.bi_o, MP.bi_t, MP.bi_i, MP.isi_v, MP.isi_o, MP.isi_t, MP.app_v, MP.ext_v, MP.pop_v, MP.pop_o, MP.revm_v, MP.rng_i, MP.dic_v, MP.dic_o, MP.lrng_v, MP.lrng_o, MP.lrng_i, MP.enu_i, MP.lc_v, MP.lc_o, MP.lc_i, MP.evs_nil, MP.evs_cons, MP.vals_nil, MP.vals_cons, MP.opds_nil, MP.opds_cons, MP.rdOs_nil, MP.rdOs_cons, MP.args_nil, MP.args_t, MP.args_f, MP.rdO_at, MP.rdO_sl, MP.d_val, MP.d_own, MP.d_lk, MP.opAt_ap, MP.opAtS_val, MP.opAtS_own, MP.opAtS_lk, MP.cap_ap, MP.capS_some, MP.retV_var, MP.retS_own, MP.retS_val, MP.ownAt_ap, MP.ownS_own, MP.chg_ap, MP.chgS_own, MP.chgO_some, MP.setAt_int, MP.itO_at', MP.itS_own, MP.itS_val, MP.itO_sl', MP.part_nil, MP.part_cons, MP.partK_int, MP.extK_lst, MP.callM_ap, MP.endC_ok, MP.takes_nil, MP.takes_at, MP.takes_sl, MP.backs_at, MP.backs_sl, MP.backs_nil, MP.lent_t, MP.lent_f, MP.lent_n, MP.endF_rt, MP.endF_nx, MP.onFr_nx, MP.onFr_rt, MP.unlk_nil, MP.retV_int, MP.retV_str, MP.retV_bl, MP.retV_non, MP.retV_glo, MP.retV_tup, MP.retV_lst, MP.retV_dic, MP.retV_bin, MP.retV_neg, MP.retV_not, MP.retV_and, MP.retV_or, MP.retV_cmp, MP.retV_cmp2, MP.retV_ite, MP.retV_kix, MP.retV_ix, MP.retV_sl, MP.retV_rev, MP.retV_call, MP.retV_bi, MP.retV_isi, MP.retV_mt, MP.retV_pop, MP.retV_lrng, MP.retV_lc, MP.retV_fs, MP.sl0, MP.sl1, MP.sl2, MP.sl3, MP.sl4, MP.sl5, MP.sl6, MP.sl7, MP.sl8, MP.sl9, MP.sl10, MP.sl11, MP.set0, MP.set1, MP.set2, MP.set3, MP.set4, MP.set5, MP.set6, MP.set7, MP.set8, MP.set9, MP.set10, MP.set11, MP.add_i, MP.sub_i, MP.pow_i, MP.and_i, MP.or_i, MP.xor_i, MP.eq_i, MP.ne_i, MP.lt_i, MP.le_i, MP.gt_i, MP.ge_i, MP.eq_s, MP.ne_s, MP.ix_l, MP.ix_t', MP.len_l, MP.len_t, MP.abs_i, MP.int_i, MP.max_i, MP.min_i, MP.list_l, MP.list_t, MP.list_s, MP.tuple_l, MP.omap_some, MP.obind_some, decide_true, decide_false, MP.tr_bl, MP.isi_ii, MP.isi_ib, MP.turnO_ap, MP.asgT_v, MP.asgT_tup, MP.asgTs_nil, MP.asgTs_cons, MP.forK_ap, MP.lcM_ap, MP.lcStep_ap, MP.wipeF_nil, MP.wipeF_cons, MP.putF_nil, MP.putF_cons, MP.ifsM_nil, MP.ifsM_cons, MP.seqI_l, MP.seqI_t, MP.seqI_s, MP.sEq, MP.atI_0, MP.atI_1, MP.atI_2, MP.atI_3, MP.atI_4, MP.atI_5, MP.atI_6, MP.atI_mapp, MP.atI_m1, MP.sz_if, MP.dlt_t, MP.dlt_f, MP.dle_t, MP.dle_f, MP.beq_t, MP.beq_f, MP.bne_t, MP.bne_f, MP.mul_okr, MP.mul_okl, MP.fdiv_ok, MP.mod_ok, MP.shl1_ok, MP.shl_ok, MP.shr_ok, MP.add_t, MP.add_lo, MP.add_so, MP.app_ok, MP.ext_ok, MP.rng1_ok, MP.rng2_ok, MP.eq_n, MP.ne_n, MP.isN_n, MP.isN_i, MP.isN_s, MP.isN_t, MP.isN_l, MP.isN_b, MP.tr_t, MP.tr_l, MP.tr_i, MP.kix_s, MP.look_c, MP.look_n, MP.ixd, MP.key_i, MP.key_s, MP.dl_c, MP.sum_ii, MP.sum_ss, MP.isi_tt, MP.isi_tl, MP.isi_ts, MP.isi_tb, MP.isi_ti, MP.isi_ll, MP.isi_lt, MP.isi_ss, MP.isi_st, MP.isi_sl, MP.isi_sb, MP.isi_si, MP.isi_is, MP.isi_it, MP.isi_il, MP.isi_bb, MP.isi_bi, MP.isi_bt, MP.isi_blx, MP.isi_nt, MP.isi_nl, MP.isi_nb, MP.isi_ni, MP.isi_ns, MP.eq_b, MP.sl12, MP.sl13, MP.sl14, MP.set12, MP.set13, MP.set14, MP.lc_t, MP.part_mn, MP.part_mc, MP.enuOk_l, MP.enuOk_t, MP.zip_i, MP.zipV_ll, MP.zipV_lt, MP.zipV_tl, MP.zipV_tt, MP.fs_v, MP.fs_o, MP.fsM_n, MP.fsM_c, MP.strOf_s, MP.sl_t, MP.sl_l, MP.mt_v, MP.mt_o, MP.mt_t, MP.mt_i, MP.ty_split, MP.ty_endswith, MP.ty_startswith, MP.ty_join, MP.ty_index, MP.ty_get, MP.csat_ok, MP.tsat_nx, MP.tsat_ct, MP.unlk_c, ↓reduceIte, String.reduceEq, Int.reduceEq, Int.reduceLT, Int.reduceLE, Int.reduceAdd, Int.reduceSub, Int.reduceMul, Int.reduceNeg, Int.reduceToNat, Nat.reduceAdd, Nat.reduceSub, List.length_cons, List.length_nil, Int.one_mul, Bool.not_true, Bool.not_false, Bool.and_true, Bool.true_and, Bool.and_false, Bool.false_and, Bool.or_true, Bool.true_or, Bool.or_false, Bool.false_or, List.isEmpty_cons, List.isEmpty_nil, List.cons_append, List.nil_append, List.append_nil, MP.Rich.io_law_tape, MP.Rich.io_law_draw, MP.Rich.io_law_name, MP.Rich.io_law_runs, MP.Rich.io_law_size, MP.Rich.io_law_any_word, MP.Rich.io_law_a_count, MP.Rich.io_law_a_field, MP.Rich.io_law_ranges, MP.Rich.io_law_a_number, MP.Rich.io_law_part, MP.Rich.io_law_case_numbers, MP.Rich.io_law_not_empty, MP.Rich.io_law_rich, MP.Rich.io_law_rich_item, MP.Rich.io_law_fixed, MP.Rich.io_law_rich_word, MP.Rich.io_law_rich_choice])
local macro_rules | `(tactic| wp_walk using $ts:term,*) => `(tactic| simp -implicitDefEqProofs (disch := first | assumption | omega | (simp only [List.length_cons, List.length_nil, List.length_map, List.length_append]; omega)) only [MP.bnd_ap, MP.bX_ok, MP.thenS_ap, MP.tX_ok, MP.seqS_nx, MP.seqS_rt, MP.seqS_bk, MP.seqS_ct, MP.ret_ap, MP.opt_some, MP.when_true, MP.evB_nil, MP.evB_cons, MP.evS_asg, MP.evS_asgT, MP.evS_aug, MP.evS_setix, MP.evS_par, MP.sets_nil, MP.sets_cons, MP.evS_ex, MP.evS_ite, MP.evS_for, MP.evS_whl, MP.evS_ret, MP.evS_retN, MP.evS_brk, MP.evS_cont, MP.evS_pass, MP.selS_true, MP.selS_false, MP.selM_true, MP.selM_false, MP.slK_ap, MP.itK_ap, MP.tru_ap, MP.fz_ap, MP.var_v, MP.var_t, MP.var_o, MP.var_i, MP.int_v, MP.int_o, MP.str_v, MP.str_o, MP.bl_v, MP.bl_o, MP.bl_t, MP.non_v, MP.non_o, MP.glo_v, MP.glo_o, MP.glo_i, MP.tup_v, MP.tup_o, MP.tup_i, MP.lst_v, MP.lst_o, MP.lst_i, MP.bin_v, MP.bin_o, MP.bin_t, MP.bin_i, MP.negK_int, MP.neg_v, MP.neg_o, MP.not_v, MP.not_t, MP.not_o, MP.isB_bl, MP.and_v, MP.and_t, MP.and_o, MP.or_v, MP.or_t, MP.or_o, MP.cmp_t, MP.cmp_v, MP.cmp_o, MP.cmp2_t, MP.cmp2_v, MP.cmp2_o, MP.ite_v, MP.ite_o, MP.ite_i, MP.kix_v, MP.kix_o, MP.ix_v, MP.ix_o, MP.ix_t, MP.ix_i, MP.sl_v, MP.sl_o, MP.sl_i, MP.rev_v, MP.rev_o, MP.rev_i, MP.revK_t, MP.revK_l, MP.call_v, MP.call_o, MP.call_t, MP.call_i, MP.bi_v, MP.bi_o, MP.bi_t, MP.bi_i, MP.isi_v, MP.isi_o, MP.isi_t, MP.app_v, MP.ext_v, MP.pop_v, MP.pop_o, MP.revm_v, MP.rng_i, MP.dic_v, MP.dic_o, MP.lrng_v, MP.lrng_o, MP.lrng_i, MP.enu_i, MP.lc_v, MP.lc_o, MP.lc_i, MP.evs_nil, MP.evs_cons, MP.vals_nil, MP.vals_cons, MP.opds_nil, MP.opds_cons, MP.rdOs_nil, MP.rdOs_cons, MP.args_nil, MP.args_t, MP.args_f, MP.rdO_at, MP.rdO_sl, MP.d_val, MP.d_own, MP.d_lk, MP.opAt_ap, MP.opAtS_val, MP.opAtS_own, MP.opAtS_lk, MP.cap_ap, MP.capS_some, MP.retV_var, MP.retS_own, MP.retS_val, MP.ownAt_ap, MP.ownS_own, MP.chg_ap, MP.chgS_own, MP.chgO_some, MP.setAt_int, MP.itO_at', MP.itS_own, MP.itS_val, MP.itO_sl', MP.part_nil, MP.part_cons, MP.partK_int, MP.extK_lst, MP.callM_ap, MP.endC_ok, MP.takes_nil, MP.takes_at, MP.takes_sl, MP.backs_at, MP.backs_sl, MP.backs_nil, MP.lent_t, MP.lent_f, MP.lent_n, MP.endF_rt, MP.endF_nx, MP.onFr_nx, MP.onFr_rt, MP.unlk_nil, MP.retV_int, MP.retV_str, MP.retV_bl, MP.retV_non, MP.retV_glo, MP.retV_tup, MP.retV_lst, MP.retV_dic, MP.retV_bin, MP.retV_neg, MP.retV_not, MP.retV_and, MP.retV_or, MP.retV_cmp, MP.retV_cmp2, MP.retV_ite, MP.retV_kix, MP.retV_ix, MP.retV_sl, MP.retV_rev, MP.retV_call, MP.retV_bi, MP.retV_isi, MP.retV_mt, MP.retV_pop, MP.retV_lrng, MP.retV_lc, MP.retV_fs, MP.sl0, MP.sl1, MP.sl2, MP.sl3, MP.sl4, MP.sl5, MP.sl6, MP.sl7, MP.sl8, MP.sl9, MP.sl10, MP.sl11, MP.set0, MP.set1, MP.set2, MP.set3, MP.set4, MP.set5, MP.set6, MP.set7, MP.set8, MP.set9, MP.set10, MP.set11, MP.add_i, MP.sub_i, MP.pow_i, MP.and_i, MP.or_i, MP.xor_i, MP.eq_i, MP.ne_i, MP.lt_i, MP.le_i, MP.gt_i, MP.ge_i, MP.eq_s, MP.ne_s, MP.ix_l, MP.ix_t', MP.len_l, MP.len_t, MP.abs_i, MP.int_i, MP.max_i, MP.min_i, MP.list_l, MP.list_t, MP.list_s, MP.tuple_l, MP.omap_some, MP.obind_some, decide_true, decide_false, MP.tr_bl, MP.isi_ii, MP.isi_ib, MP.turnO_ap, MP.asgT_v, MP.asgT_tup, MP.asgTs_nil, MP.asgTs_cons, MP.forK_ap, MP.lcM_ap, MP.lcStep_ap, MP.wipeF_nil, MP.wipeF_cons, MP.putF_nil, MP.putF_cons, MP.ifsM_nil, MP.ifsM_cons, MP.seqI_l, MP.seqI_t, MP.seqI_s, MP.sEq, MP.atI_0, MP.atI_1, MP.atI_2, MP.atI_3, MP.atI_4, MP.atI_5, MP.atI_6, MP.atI_mapp, MP.atI_m1, MP.sz_if, MP.dlt_t, MP.dlt_f, MP.dle_t, MP.dle_f, MP.beq_t, MP.beq_f, MP.bne_t, MP.bne_f, MP.mul_okr, MP.mul_okl, MP.fdiv_ok, MP.mod_ok, MP.shl1_ok, MP.shl_ok, MP.shr_ok, MP.add_t, MP.add_lo, MP.add_so, MP.app_ok, MP.ext_ok, MP.rng1_ok, MP.rng2_ok, MP.eq_n, MP.ne_n, MP.isN_n, MP.isN_i, MP.isN_s, MP.isN_t, MP.isN_l, MP.isN_b, MP.tr_t, MP.tr_l, MP.tr_i, MP.kix_s, MP.look_c, MP.look_n, MP.ixd, MP.key_i, MP.key_s, MP.dl_c, MP.sum_ii, MP.sum_ss, MP.isi_tt, MP.isi_tl, MP.isi_ts, MP.isi_tb, MP.isi_ti, MP.isi_ll, MP.isi_lt, MP.isi_ss, MP.isi_st, MP.isi_sl, MP.isi_sb, MP.isi_si, MP.isi_is, MP.isi_it, MP.isi_il, MP.isi_bb, MP.isi_bi, MP.isi_bt, MP.isi_blx, MP.isi_nt, MP.isi_nl, MP.isi_nb, MP.isi_ni, MP.isi_ns, MP.eq_b, MP.sl12, MP.sl13, MP.sl14, MP.set12, MP.set13, MP.set14, MP.lc_t, MP.part_mn, MP.part_mc, MP.enuOk_l, MP.enuOk_t, MP.zip_i, MP.zipV_ll, MP.zipV_lt, MP.zipV_tl, MP.zipV_tt, MP.fs_v, MP.fs_o, MP.fsM_n, MP.fsM_c, MP.strOf_s, MP.sl_t, MP.sl_l, MP.mt_v, MP.mt_o, MP.mt_t, MP.mt_i, MP.ty_split, MP.ty_endswith, MP.ty_startswith, MP.ty_join, MP.ty_index, MP.ty_get, MP.csat_ok, MP.tsat_nx, MP.tsat_ct, MP.unlk_c, ↓reduceIte, String.reduceEq, Int.reduceEq, Int.reduceLT, Int.reduceLE, Int.reduceAdd, Int.reduceSub, Int.reduceMul, Int.reduceNeg, Int.reduceToNat, Nat.reduceAdd, Nat.reduceSub, List.length_cons, List.length_nil, Int.one_mul, Bool.not_true, Bool.not_false, Bool.and_true, Bool.true_and, Bool.and_false, Bool.false_and, Bool.or_true, Bool.true_or, Bool.or_false, Bool.false_or, List.isEmpty_cons, List.isEmpty_nil, List.cons_append, List.nil_append, List.append_nil, MP.Rich.io_law_tape, MP.Rich.io_law_draw, MP.Rich.io_law_name, MP.Rich.io_law_runs, MP.Rich.io_law_size, MP.Rich.io_law_any_word, MP.Rich.io_law_a_count, MP.Rich.io_law_a_field, MP.Rich.io_law_ranges, MP.Rich.io_law_a_number, MP.Rich.io_law_part, MP.Rich.io_law_case_numbers, MP.Rich.io_law_not_empty, MP.Rich.io_law_rich, MP.Rich.io_law_rich_item, MP.Rich.io_law_fixed, MP.Rich.io_law_rich_word, MP.Rich.io_law_rich_choice, $[$ts:term],*])
theorem runsV_mem : ∀ (k : Nat) (ns : List Int), ns.length = k → ∀ p ∈ runsV ns, p.1 ∈ ns ∧ p.2 ∈ ns ∧ p.1 ≤ p.2 := fun k => by
  induction k with
  | zero => intro ns h p hp; rw [List.length_eq_zero_iff.mp h] at hp; cases hp
  | succ k ih =>
    intro ns h
    rcases nil_or_app ns with rfl | ⟨m, b, rfl⟩
    · cases h
    · have ih := ih m (by simp at h; exact h)
      rw [runsV_snoc]
      intro p hp
      have up : ∀ q ∈ runsV m, q.1 ∈ m ++ [b] ∧ q.2 ∈ m ++ [b] ∧ q.1 ≤ q.2 := fun q hq => ⟨List.mem_append_left _ (ih q hq).1, List.mem_append_left _ (ih q hq).2.1, (ih q hq).2.2⟩
      generalize runsV m = l at *
      rcases nil_or_app l with rfl | ⟨r, q, rfl⟩
      · rw [runS_nil, List.mem_singleton] at hp
        rw [hp]; exact ⟨by simp, by simp, Int.le_refl _⟩
      · rw [runS_app] at hp
        have hq := up q (by simp)
        split at hp
        · rename_i c
          rcases List.mem_append.mp hp with hp | hp
          · exact up p (List.mem_append_left _ hp)
          · rw [List.mem_singleton.mp hp]
            exact ⟨hq.1, by simp, by have := hq.2.2; show q.1 ≤ b; omega⟩
        · rcases List.mem_append.mp hp with hp | hp
          · exact up p hp
          · rw [List.mem_singleton.mp hp]; exact ⟨by simp, by simp, Int.le_refl _⟩
theorem RsOk.weak {w : Int} {sg : Bool} {l : Rs} (hw : 1 ≤ w) (h : RsOk w sg (some l)) : w ≤ 8 ∧ l ≠ [] ∧ l.length ≤ 300 ∧ ∀ p ∈ l, p.1 ≤ p.2 ∧ fLo w sg ≤ p.1 ∧ p.2 < fHi w sg ∧ -256 ≤ p.1 ∧ p.2 ≤ 256 := by
  obtain ⟨h8, ns, h1, h2, h3, h4, rfl⟩ := h l rfl
  obtain ⟨sp, hsp, hs0, hs1, hsh, hev⟩ := pw8 hw h8
  refine ⟨h8, (runsV_len ns).2 h1, by have := (runsV_len ns).1; omega, fun p hp => ?_⟩
  obtain ⟨m1, m2, m3⟩ := runsV_mem _ ns rfl p hp
  have b1 := h4 _ m1
  have b2 := h4 _ m2
  refine ⟨m3, b1.1, b2.2, ?_⟩
  unfold fLo fHi at b1 b2
  rw [hsp, hsh] at b1 b2
  cases sg
  · rw [if_neg (by decide), if_neg (by decide)] at b1 b2; omega
  · rw [if_pos rfl, if_pos rfl] at b1 b2; omega
theorem pw32 {w : Int} (h0 : 1 ≤ w) (h1 : w ≤ 32) : ∃ pw hf : Int, (2 : Int) ^ w.toNat = pw ∧ (2 : Int) ^ (w - 1).toNat = hf ∧ pw = 2 * hf ∧ 1 ≤ hf ∧ hf ≤ 2147483648 := by
  obtain ⟨n, rfl⟩ : ∃ n : Nat, w = n + 1 := ⟨(w - 1).toNat, by omega⟩
  have e1 : ((n : Int) + 1).toNat = n + 1 := by omega
  have e2 : ((n : Int) + 1 - 1).toNat = n := by omega
  refine ⟨_, _, rfl, rfl, ?_, ?_, ?_⟩
  · rw [e1, e2, pw_succ]; omega
  · rw [e2]; have := pw_pos n; omega
  · rw [e2]
    have := pw_le (a := n) (b := 31) (by omega)
    have e : (2 : Int) ^ 31 = 2147483648 := by decide
    omega
theorem half {c hf : Int} (h0 : 0 ≤ c) (h1 : c < 2 * hf) (hh : 1 ≤ hf) : (c / hf = 1 → hf ≤ c) ∧ (¬ c / hf = 1 → c < hf) := by
  have q0 := Int.ediv_nonneg h0 (show 0 ≤ hf by omega)
  have q1 : c / hf < 2 := Int.ediv_lt_of_lt_mul (by omega) h1
  have e := Int.emod_add_mul_ediv c hf
  have m0 := Int.emod_nonneg c (b := hf) (by omega)
  have m1 := Int.emod_lt_of_pos c (b := hf) (by omega)
  have : c / hf = 0 ∨ c / hf = 1 := by omega
  rcases this with q | q
  · rw [q] at e ⊢; omega
  · rw [q] at e ⊢; omega
theorem flat_filter {α β : Type} (p : α → Bool) (f : α → β) : ∀ l : List α, (l.flatMap fun a => if p a then [f a] else []) = (l.filter p).map f
  | [] => rfl
  | a :: r => by
    rw [List.flatMap_cons, flat_filter p f r, List.filter_cons]
    cases p a <;> rfl
/-- what a walked list gives -/
theorem LcR.ints {g : Int → Prop} : ∀ {xs ds : List D}, LcR (fun _ d => ∃ b : Int, d = [.int b] ∧ g b) xs ds → ∃ bs : List Int, ds = bs.map D.int ∧ bs.length = xs.length ∧ ∀ b ∈ bs, g b
  | _, _, .nil => ⟨[], rfl, rfl, fun b h => by cases h⟩
  | _, _, .cons h r => by
    obtain ⟨b, rfl, hb⟩ := h
    obtain ⟨bs, rfl, h2, h3⟩ := LcR.ints r
    exact ⟨b :: bs, rfl, by simp [h2], fun x hx => by
      rcases List.mem_cons.mp hx with e | e
      · rw [e]; exact hb
      · exact h3 x e⟩
theorem oD_n {α : Type} (f : α → D) : oD f none = .non := rfl
theorem oD_s {α : Type} (f : α → D) (a : α) : oD f (some a) = f a := rfl
theorem map_snoc {α β : Type} (f : α → β) (l : List α) (a : α) : l.map f ++ [f a] = (l ++ [a]).map f := by simp
section
variable {P : Prg} {I : Ix} {wn kk : Nat}
theorem Rich.a_field (H : Rich P I) (hk : 2 < kk) {t : List D} (tp : Tp t) {ws : List Int} (hl : ws.length ≤ 100) (hne : ws ≠ []) (hw : ∀ x ∈ ws, 1 ≤ x ∧ x ≤ 32) {s : Slot} (hs : s = .val (.lst (ws.map .int)) ∨ s = .own (ws.map .int)) :
    CSat (callF P wn kk I.law_a_field [.own t, s, .val (.int 0)]) fun r ps => ∃ (w : Int) (sg : Bool) (rs : Option Rs) (t' : List D), w ∈ ws ∧ r = .val (.tup [.int w, .bl sg, rsD rs]) ∧ RsOk w sg rs ∧ ps = [.own t', .un, .un] ∧ Tp t' := by
  obtain ⟨k, rfl⟩ : ∃ k, kk = k + 1 := ⟨kk - 1, by omega⟩
  rw [callF_succ P wn k H.law_a_field _ rfl]
  unfold F_law_a_field
  simp only [List.length_cons, List.length_nil, List.reduceReplicate, Nat.reduceSub, Nat.reduceAdd, List.cons_append, List.nil_append]
  have hl0 : 0 < ws.length := List.length_pos_iff.mpr hne
  have hz : (ws.map D.int).length = ws.length := List.length_map ..
  rcases hs with rfl | rfl
  · wp_walk using hz
    obtain ⟨r, t_r, e_r, tp, r0, r1, r2⟩ := H.draw (wn := wn) (kk := k) (by omega) tp (ws.length) (by omega)
    replace r1 := r1 (by omega)
    wp_walk using e_r
    obtain ⟨w, hm, e⟩ := menu (xs := ws) r0 r1
    have e2 : atI (ws.map D.int) r = some (.int w) := by rw [at_map, e]; rfl
    have hw := hw w hm
    wp_walk using e2
    obtain ⟨u, t_u, e_u, tp, u0, u1, u2⟩ := H.draw (wn := wn) (kk := k) (by omega) tp (3) (by omega)
    replace u1 := u1 (by omega)
    wp_walk using e_u
    by_cases c : u = 0
    · wp_walk using beq_t c
      obtain ⟨_, _, e3, rs, t', rfl, hr, rfl, tp⟩ := (H.ranges (wn := wn) (kk := k) (by omega) tp (w := w) (sg := true) (by omega) (by omega)).get
      wp_walk using e3
      exact ⟨w, true, rs, t', hm, rfl, hr, rfl, tp⟩
    · wp_walk using beq_f c
      obtain ⟨_, _, e3, rs, t', rfl, hr, rfl, tp⟩ := (H.ranges (wn := wn) (kk := k) (by omega) tp (w := w) (sg := false) (by omega) (by omega)).get
      wp_walk using e3
      exact ⟨w, false, rs, t', hm, rfl, hr, rfl, tp⟩
  · wp_walk using hz
    obtain ⟨r, t_r, e_r, tp, r0, r1, r2⟩ := H.draw (wn := wn) (kk := k) (by omega) tp (ws.length) (by omega)
    replace r1 := r1 (by omega)
    wp_walk using e_r
    obtain ⟨w, hm, e⟩ := menu (xs := ws) r0 r1
    have e2 : atI (ws.map D.int) r = some (.int w) := by rw [at_map, e]; rfl
    have hw := hw w hm
    wp_walk using e2
    obtain ⟨u, t_u, e_u, tp, u0, u1, u2⟩ := H.draw (wn := wn) (kk := k) (by omega) tp (3) (by omega)
    replace u1 := u1 (by omega)
    wp_walk using e_u
    by_cases c : u = 0
    · wp_walk using beq_t c
      obtain ⟨_, _, e3, rs, t', rfl, hr, rfl, tp⟩ := (H.ranges (wn := wn) (kk := k) (by omega) tp (w := w) (sg := true) (by omega) (by omega)).get
      wp_walk using e3
      exact ⟨w, true, rs, t', hm, rfl, hr, rfl, tp⟩
    · wp_walk using beq_f c
      obtain ⟨_, _, e3, rs, t', rfl, hr, rfl, tp⟩ := (H.ranges (wn := wn) (kk := k) (by omega) tp (w := w) (sg := false) (by omega) (by omega)).get
      wp_walk using e3
      exact ⟨w, false, rs, t', hm, rfl, hr, rfl, tp⟩
theorem Rich.number_tail (H : Rich P I) {k : Nat} (hk : 0 < k) {t : List D} (tp : Tp t) {w c : Int} {sg : Bool} (hw : 1 ≤ w) (hw2 : w ≤ 32) (h0 : 0 ≤ c) (h1 : c ≤ 4294967296) :
    CSat (endF [true, false, false, false] (evB P (callF P wn k) wn ((F_law_a_number I).body.drop 3) [.own t, .val (.int w), .val (.bl sg), .val .non, .un, .val (.int c)])) fun s ps => ∃ (n : Int) (t' : List D), s = .val (.int n) ∧ fLo w sg ≤ n ∧ n < fHi w sg ∧ -4294967296 ≤ n ∧ n ≤ 4294967296 ∧ ps = [.own t', .un, .un, .un] ∧ Tp t' := by
  unfold F_law_a_number
  simp only [List.drop_succ_cons, List.drop_zero]
  obtain ⟨pw, hf, e1, e2, e3, f0, f1⟩ := pw32 hw hw2
  have m8 := Bits.bitAnd_mask 8 h0
  have e8 : (2 : Int) ^ 8 - 1 = 255 := by decide
  have e8' : (2 : Int) ^ 8 = 256 := by decide
  rw [e8, e8'] at m8
  wp_walk using e1, e2, m8
  obtain ⟨r, t_r, e_r, tp, r0, r1, r2⟩ := H.draw (wn := wn) (kk := k) (by omega) tp (6) (by omega)
  replace r1 := r1 (by omega)
  wp_walk using e_r
  obtain ⟨v, v0, v1, e_v⟩ := imenu [0, pw - 1, hf, c % 256, c, c] r (0) (9000000000) (by intro x hx; simp only [List.mem_cons, List.not_mem_nil, or_false] at hx; omega) (by omega) (by simp only [List.length_cons, List.length_nil]; omega)
  simp only [List.map_cons, List.map_nil] at e_v
  wp_walk using e_v
  have mk := Bits.bitAnd_mask w.toNat v0
  rw [e1] at mk
  have b0 := Int.emod_nonneg v (b := pw) (by omega)
  have b1 := Int.emod_lt_of_pos v (b := pw) (by omega)
  have hh := half b0 (by omega) f0
  wp_walk using e1, mk
  unfold fLo fHi
  rw [e1, e2]
  generalize v % pw = x at *
  cases sg with
  | true =>
    by_cases cc : x / hf = 1
    · have hh := hh.1 cc
      wp_walk using e2, beq_t cc, e1
      exact ⟨x - pw, _, rfl, by omega, by omega, by omega, by omega, rfl, tp⟩
    · have hh := hh.2 cc
      wp_walk using e2, beq_f cc, e1
      exact ⟨x, _, rfl, by omega, by omega, by omega, by omega, rfl, tp⟩
  | false =>
    wp_walk
    exact ⟨x, _, rfl, by first | omega | simp; omega, by first | omega | simp; omega, by omega, by omega, rfl, tp⟩
theorem Rich.a_number (H : Rich P I) (hk : 1 < kk) {t : List D} (tp : Tp t) {w : Int} {sg : Bool} {rs : Option Rs} (hw : 1 ≤ w) (hw2 : w ≤ 32) (hr : RsOk w sg rs) :
    CSat (callF P wn kk I.law_a_number [.own t, .val (.int w), .val (.bl sg), .val (rsD rs)]) fun s ps => ∃ (n : Int) (t' : List D), s = .val (.int n) ∧ Alw w sg rs n ∧ -4294967296 ≤ n ∧ n ≤ 4294967296 ∧ ps = [.own t', .un, .un, .un] ∧ Tp t' := by
  obtain ⟨k, rfl⟩ : ∃ k, kk = k + 1 := ⟨kk - 1, by omega⟩
  rw [callF_succ P wn k H.law_a_number _ rfl]
  have tail := fun {t : List D} (tp : Tp t) (c : Int) => H.number_tail (wn := wn) (k := k) (by omega) tp (w := w) (c := c) (sg := sg) hw hw2
  have eb : (F_law_a_number I).body = (F_law_a_number I).body.take 3 ++ (F_law_a_number I).body.drop 3 := rfl
  generalize (F_law_a_number I).body.drop 3 = tl at *
  rw [eb]
  unfold F_law_a_number
  simp only [List.length_cons, List.length_nil, List.reduceReplicate, Nat.reduceSub, Nat.reduceAdd, List.cons_append, List.nil_append, List.take_succ_cons, List.take_zero]
  cases rs with
  | some l =>
    obtain ⟨h8, hne, hl, hp⟩ := hr.weak hw
    have hl0 : 0 < l.length := List.length_pos_iff.mpr hne
    have hz : (l.map prD).length = l.length := List.length_map ..
    wp_walk using rsD, oD_s, hz
    obtain ⟨r, t_r, e_r, tp, r0, r1, r2⟩ := H.draw (wn := wn) (kk := k) (by omega) tp (l.length) (by omega)
    replace r1 := r1 (by omega)
    wp_walk using e_r
    obtain ⟨p, hm, e⟩ := menu (xs := l) r0 r1
    have e2 : atI (l.map prD) r = some (prD p) := by rw [at_map, e]; rfl
    have hp := hp p hm
    wp_walk using e2, prD
    obtain ⟨u, t_u, e_u, tp, u0, u1, u2⟩ := H.draw (wn := wn) (kk := k) (by omega) tp (p.2 - p.1 + 1) (by omega)
    replace u1 := u1 (by omega)
    wp_walk using e_u
    exact ⟨p.1 + u, _, rfl, ⟨p, hm, by omega, by omega⟩, by omega, by omega, rfl, tp⟩
  | none =>
    have fin : ∀ {o : COut}, CSat o (fun s ps => ∃ (n : Int) (t' : List D), s = .val (.int n) ∧ fLo w sg ≤ n ∧ n < fHi w sg ∧ -4294967296 ≤ n ∧ n ≤ 4294967296 ∧ ps = [.own t', .un, .un, .un] ∧ Tp t') →
        CSat o fun s ps => ∃ (n : Int) (t' : List D), s = .val (.int n) ∧ Alw w sg none n ∧ -4294967296 ≤ n ∧ n ≤ 4294967296 ∧ ps = [.own t', .un, .un, .un] ∧ Tp t' := fun {o} h => by
      obtain ⟨s, ps, rfl, n, t', h1, h2, h3, h4⟩ := h.get
      exact ⟨n, t', h1, ⟨h2, h3⟩, h4⟩
    by_cases c : 16 < w
    · wp_walk using rsD, oD_n, if_pos c
      obtain ⟨r, t_r, e_r, tp, r0, r1, r2⟩ := H.draw (wn := wn) (kk := k) (by omega) tp (2 ^ 16) (by omega)
      replace r1 := r1 (by omega)
      wp_walk using e_r
      wp_walk
      obtain ⟨u, t_u, e_u, tp, u0, u1, u2⟩ := H.draw (wn := wn) (kk := k) (by omega) tp (65536) (by omega)
      replace u1 := u1 (by omega)
      wp_walk using e_u
      exact fin (tail tp _ (by omega) (by omega))
    · obtain ⟨pw, hf, e1, e2, e3, f0, f1⟩ := pw32 hw hw2
      have hle := pw_le (a := w.toNat) (b := 16) (by omega)
      rw [e1, show (2 : Int) ^ 16 = 65536 by decide] at hle
      wp_walk using rsD, oD_n, if_neg c, e1
      obtain ⟨r, t_r, e_r, tp, r0, r1, r2⟩ := H.draw (wn := wn) (kk := k) (by omega) tp (pw) (by omega)
      replace r1 := r1 (by omega)
      wp_walk using e_r
      exact fin (tail tp _ (by omega) (by omega))
end
end MP

/-! MP: rich layouts: parts, words, fixed items. -/
namespace MP
open PySem L2
local macro_rules | `(tactic| wp_walk) => `(tactic| simp -implicitDefEqProofs (disch := first | assumption | omega | (simp only [List.length_cons, List.length_nil, List.length_map, List.length_append]; omega)) only [MP.bnd_ap, MP.bX_ok, MP.thenS_ap, MP.tX_ok, MP.seqS_nx, MP.seqS_rt, MP.seqS_bk, MP.seqS_ct, MP.ret_ap, MP.opt_some, MP.when_true, MP.evB_nil, MP.evB_cons, MP.evS_asg, MP.evS_asgT, MP.evS_aug, MP.evS_setix, MP.evS_par, MP.sets_nil, MP.sets_cons, MP.evS_ex, MP.evS_ite, MP.evS_for, MP.evS_whl, MP.evS_ret, MP.evS_retN, MP.evS_brk, MP.evS_cont, MP.evS_pass, MP.selS_true, MP.selS_false, MP.selM_true, MP.selM_false, MP.slK_ap, MP.itK_ap, MP.tru_ap, MP.fz_ap, MP.var_v, MP.var_t, MP.var_o, MP.var_i, MP.int_v, MP.int_o, MP.str_v, MP.str_o, MP.bl_v, MP.bl_o, MP.bl_t, MP.non_v, MP.non_o, MP.glo_v, MP.glo_o, MP.glo_i, MP.tup_v, MP.tup_o, MP.tup_i, MP.lst_v, MP.lst_o, MP.lst_i, MP.bin_v, MP.bin_o, MP.bin_t, MP.bin_i, MP.negK_int, MP.neg_v, MP.neg_o, MP.not_v, MP.not_t, MP.not_o, MP.isB_bl, MP.and_v, MP.and_t, MP.and_o, MP.or_v, MP.or_t, MP.or_o, MP.cmp_t, MP.cmp_v, MP.cmp_o, MP.cmp2_t, MP.cmp2_v, MP.cmp2_o, MP.ite_v, MP.ite_o, MP.ite_i, MP.kix_v, MP.kix_o, MP.ix_v, MP.ix_o, MP.ix_t, MP.ix_i, MP.sl_v, MP.sl_o, MP.sl_i, MP.rev_v, MP.rev_o, MP.rev_i, MP.revK_t, MP.revK_l, MP.call_v, MP.call_o, MP.call_t, MP.call_i, MP.bi_v, MP.bi_o, MP.bi_t, MP.bi_i, MP.isi_v, MP.isi_o, MP.isi_t, MP.app_v, MP.ext_v, MP.pop_v, MP.pop_o, MP.revm_v, MP.rng_i, MP.dic_v, MP.dic_o, MP.lrng_v, MP.lrng_o, MP.lrng_i, MP.enu_i, MP.lc_v, MP.lc_o, MP.lc_i, MP.evs_nil, MP.evs_cons, MP.vals_nil, MP.vals_cons, MP.opds_nil, MP.opds_cons, MP.rdOs_nil, MP.rdOs_cons, MP.args_nil, MP.args_t, MP.args_f, MP.rdO_at, MP.rdO_sl, MP.d_val, MP.d_own, MP.d_lk, MP.opAt_ap, MP.opAtS_val, MP.opAtS_own, MP.opAtS_lk, MP.cap_ap, MP.capS_some, MP.retV_var, MP.retS_own, MP.retS_val, MP.ownAt_ap, MP.ownS_own, MP.chg_ap, MP.chgS_own, MP.chgO_some, MP.setAt_int, MP.itO_at', MP.itS_own, MP.itS_val, MP.itO_sl', MP.part_nil, MP.part_cons, MP.partK_int, MP.extK_lst, MP.callM_ap, MP.endC_ok, MP.takes_nil, MP.takes_at, MP.takes_sl, MP.backs_at, MP.backs_sl, MP.backs_nil, MP.lent_t, MP.lent_f, MP.lent_n, MP.endF_rt, MP.endF_nx, MP.onFr_nx, MP.onFr_rt, MP.unlk_nil, MP.retV_int, MP.retV_str, MP.retV_bl, MP.retV_non, MP.retV_glo, MP.retV_tup, MP.retV_lst, MP.retV_dic, MP.retV_bin, MP.retV_neg, MP.retV_not, MP.retV_and, MP.retV_or, MP.retV_cmp, MP.retV_cmp2, MP.retV_ite, MP.retV_kix, MP.retV_ix, MP.retV_sl, MP.retV_rev, MP.retV_call, MP.retV_bi, MP.retV_isi, MP.retV_mt, MP.retV_pop, MP.retV_lrng, MP.retV_lc, MP.retV_fs, MP.sl0, MP.sl1, MP.sl2, MP.sl3, MP.sl4, MP.sl5, MP.sl6, MP.sl7, MP.sl8, MP.sl9, MP.sl10, MP.sl11, MP.set0, MP.set1, MP.set2, MP.set3, MP.set4, MP.set5, MP.set6, MP.set7, MP.set8, MP.set9, MP.set10, MP.set11, MP.add_i, MP.sub_i, MP.pow_i, MP.and_i, MP.or_i, MP.xor_i, MP.eq_i, MP.ne_i, MP.lt_i, MP.le_i, MP.gt_i, MP.ge_i, MP.eq_s, MP.ne_s, MP.ix_l, MP.ix_t', MP.len_l, MP.len_t, MP.abs_i, MP.int_i, MP.max_i, MP.min_i, MP.list_l, MP.list_t, MP.list_s, MP.tuple_l, MP.omap_some, MP.obind_some, decide_true, decide_false, MP.tr_bl, MP.isi_ii, MP.isi_ib, MP.turnO_ap, MP.asgT_v, MP.asgT_tup, MP.asgTs_nil, MP.asgTs_cons, MP.forK_ap, MP.lcM_ap, MP.lcStep_ap, MP.wipeF_nil, MP.wipeF_cons, MP.putF_nil, MP.putF_cons, MP.ifsM_nil, MP.ifsM_cons, MP.seqI_l, MP.seqI_t, MP.seqI_s, MP.sEq, MP.atI_0, MP.atI_1, MP.atI_2, MP.atI_3, MP.atI_4, MP.atI_5, MP.atI_6, MP.atI_mapp, MP.atI_m1, MP.sz_if, MP.dlt_t, MP.dlt_f, MP.dle_t, MP.dle_f, MP.beq_t, MP.beq_f, MP.bne_t, MP.bne_f, MP.mul_okr, MP.mul_okl, MP.fdiv_ok, MP.mod_ok, MP.shl1_ok, MP.shl_ok, MP.shr_ok, MP.add_t, MP.add_lo, MP.add_so, MP.app_ok, MP.ext_ok, MP.rng1_ok, MP.rng2_ok, MP.eq_n, MP.ne_n, MP.isN_n, MP.isN_i, MP.isN_s, MP.isN_t, MP.isN_l, MP.isN_b, MP.tr_t, MP.tr_l, MP.tr_i, MP.kix_s, MP.look_c, MP.look_n, MP.ixd, MP.key_i, MP.key_s, MP.dl_c, MP.sum_ii, MP.sum_ss, MP.isi_tt, MP.isi_tl, MP.isi_ts, MP.isi_tb, MP.isi_ti, MP.isi_ll, MP.isi_lt, MP.isi_ss, MP.isi_st, MP.isi_sl, MP.isi_sb, MP.isi_si, MP.isi_is, MP.isi_it, MP.isi_il, MP.isi_bb, MP.isi_bi, MP.isi_bt, MP.isi_blx, MP.isi_nt, MP.isi_nl, MP.isi_nb, MP.isi_ni, MP.isi_ns, MP.eq_b, MP.sl12, MP.sl13, MP.sl14, MP.set12, MP.set13, MP.set14, MP.lc_t, MP.part_mn, MP.part_mc, MP.enuOk_l, MP.enuOk_t, MP.zip_i, MP.zipV_ll, MP.zipV_lt, MP.zipV_tl, MP.zipV_tt, MP.fs_v, MP.fs_o, MP.fsM_n, MP.fsM_c, MP.strOf_s, MP.sl_t, MP.sl_l, MP.mt_v, MP.mt_o, MP.mt_t, MP.mt_i, MP.ty_split, MP.ty_endswith, MP.ty_startswith, MP.ty_join, MP.ty_index, MP.ty_get, MP.csat_ok, MP.tsat_nx, MP.tsat_ct, MP.unlk_c, ↓reduceIte, String.reduceEq, Int.reduceEq, Int.reduceLT, Int.reduceLE, Int.reduceAdd, Int.reduceSub, Int.reduceMul, Int.reduceNeg, Int.reduceToNat, Nat.reduceAdd, Nat.reduceSub, List.length_cons, List.length_nil, Int.one_mul, Bool.not_true, Bool.not_false, Bool.and_true, Bool.true_and, Bool.and_false, Bool.false_and, Bool.or_true, Bool.true_or, Bool.or_false, Bool.false_or, List.isEmpty_cons, List.isEmpty_nil, List.cons_append, List.nil_append, List.append_nil, MP.Rich.io_law_tape, MP.Rich.io_law_draw, MP.Rich.io_law_name, MP.Rich.io_law_runs, MP.Rich.io_law_size, MP.Rich.io_law_any_word, MP.Rich.io_law_a_count, MP.Rich.io_law_a_field, MP.Rich.io_law_ranges, MP.Rich.io_law_a_number, MP.Rich.io_law_part, MP.Rich.io_law_case_numbers, MP.Rich.io_law_not_empty, MP.Rich.io_law_rich, MP.Rich.io_law_rich_item, MP.Rich.io_law_fixed, MP.Rich.io_law_rich_word, MP.Rich.io_law_rich_choice])
local macro_rules | `(tactic| wp_walk using $ts:term,*) => `(tactic| simp -implicitDefEqProofs (disch := first | assumption | omega | (simp only [List.length_cons, List.length_nil, List.length_map, List.length_append]; omega)) only [MP.bnd_ap, MP.bX_ok, MP.thenS_ap, MP.tX_ok, MP.seqS_nx, MP.seqS_rt, MP.seqS_bk, MP.seqS_ct, MP.ret_ap, MP.opt_some, MP.when_true, MP.evB_nil, MP.evB_cons, MP.evS_asg, MP.evS_asgT, MP.evS_aug, MP.evS_setix, MP.evS_par, MP.sets_nil, MP.sets_cons, MP.evS_ex, MP.evS_ite, MP.evS_for, MP.evS_whl, MP.evS_ret, MP.evS_retN, MP.evS_brk, MP.evS_cont, MP.evS_pass, MP.selS_true, MP.selS_false, MP.selM_true, MP.selM_false, MP.slK_ap, MP.itK_ap, MP.tru_ap, MP.fz_ap, MP.var_v, MP.var_t, MP.var_o, MP.var_i, MP.int_v, MP.int_o, MP.str_v, MP.str_o, MP.bl_v, MP.bl_o, MP.bl_t, MP.non_v, MP.non_o, MP.glo_v, MP.glo_o, MP.glo_i, MP.tup_v, MP.tup_o, MP.tup_i, MP.lst_v, MP.lst_o, MP.lst_i, MP.bin_v, MP.bin_o, MP.bin_t, MP.bin_i, MP.negK_int, MP.neg_v, MP.neg_o, MP.not_v, MP.not_t, MP.not_o, MP.isB_bl, MP.and_v, MP.and_t, MP.and_o, MP.or_v, MP.or_t, MP.or_o, MP.cmp_t, MP.cmp_v, MP.cmp_o, MP.cmp2_t, MP.cmp2_v, MP.cmp2_o, MP.ite_v, MP.ite_o, MP.ite_i, MP.kix_v, MP.kix_o, MP.ix_v, MP.ix_o, MP.ix_t, MP.ix_i, MP.sl_v, MP.sl_o, MP.sl_i, MP.rev_v, MP.rev_o, MP.rev_i, MP.revK_t, MP.revK_l, MP.call_v, MP.call_o, MP.call_t, MP.call_i, MP.bi_v, MP.bi_o, MP.bi_t, MP.bi_i, MP.isi_v, MP.isi_o, MP.isi_t, MP.app_v, MP.ext_v, MP.pop_v, MP.pop_o, MP.revm_v, MP.rng_i, MP.dic_v, MP.dic_o, MP.lrng_v, MP.lrng_o, MP.lrng_i, MP.enu_i, MP.lc_v, MP.lc_o, MP.lc_i, MP.evs_nil, MP.evs_cons, MP.vals_nil, MP.vals_cons, MP.opds_nil, MP.opds_cons, MP.rdOs_nil, MP.rdOs_cons, MP.args_nil, MP.args_t, MP.args_f, MP.rdO_at, MP.rdO_sl, MP.d_val, MP.d_own, MP.d_lk, MP.opAt_ap, MP.opAtS_val, MP.opAtS_own, MP.opAtS_lk, MP.cap_ap, MP.capS_some, MP.retV_var, MP.retS_own, MP.retS_val, MP.ownAt_ap, MP.ownS_own, MP.chg_ap, MP.chgS_own, MP.chgO_some, MP.setAt_int, MP.itO_at', MP.itS_own, MP.itS_val, MP.itO_sl', MP.part_nil, MP.part_cons, MP.partK_int, MP.extK_lst, MP.callM_ap, MP.endC_ok, MP.takes_nil, MP.takes_at, MP.takes_sl, MP.backs_at, MP.backs_sl, MP.backs_nil, MP.lent_t, MP.lent_f, MP.lent_n, MP.endF_rt, MP.endF_nx, MP.onFr_nx, MP.onFr_rt, MP.unlk_nil, MP.retV_int, MP.retV_str, MP.retV_bl, MP.retV_non, MP.retV_glo, MP.retV_tup, MP.retV_lst, MP.retV_dic, MP.retV_bin, MP.retV_neg, MP.retV_not, MP.retV_and, MP.retV_or, MP.retV_cmp, MP.retV_cmp2, MP.retV_ite, MP.retV_kix, MP.retV_ix, MP.retV_sl, MP.retV_rev, MP.retV_call, MP.retV_bi, MP.retV_isi, MP.retV_mt, MP.retV_pop, MP.retV_lrng, MP.retV_lc, MP.retV_fs, MP.sl0, MP.sl1, MP.sl2, MP.sl3, MP.sl4, MP.sl5, MP.sl6, MP.sl7, MP.sl8, MP.sl9, MP.sl10, MP.sl11, MP.set0, MP.set1, MP.set2, MP.set3, MP.set4, MP.set5, MP.set6, MP.set7, MP.set8, MP.set9, MP.set10, MP.set11, MP.add_i, MP.sub_i, MP.pow_i, MP.and_i, MP.or_i, MP.xor_i, MP.eq_i, MP.ne_i, MP.lt_i, MP.le_i, MP.gt_i, MP.ge_i, MP.eq_s, MP.ne_s, MP.ix_l, MP.ix_t', MP.len_l, MP.len_t, MP.abs_i, MP.int_i, MP.max_i, MP.min_i, MP.list_l, MP.list_t, MP.list_s, MP.tuple_l, MP.omap_some, MP.obind_some, decide_true, decide_false, MP.tr_bl, MP.isi_ii, MP.isi_ib, MP.turnO_ap, MP.asgT_v, MP.asgT_tup, MP.asgTs_nil, MP.asgTs_cons, MP.forK_ap, MP.lcM_ap, MP.lcStep_ap, MP.wipeF_nil, MP.wipeF_cons, MP.putF_nil, MP.putF_cons, MP.ifsM_nil, MP.ifsM_cons, MP.seqI_l, MP.seqI_t, MP.seqI_s, MP.sEq, MP.atI_0, MP.atI_1, MP.atI_2, MP.atI_3, MP.atI_4, MP.atI_5, MP.atI_6, MP.atI_mapp, MP.atI_m1, MP.sz_if, MP.dlt_t, MP.dlt_f, MP.dle_t, MP.dle_f, MP.beq_t, MP.beq_f, MP.bne_t, MP.bne_f, MP.mul_okr, MP.mul_okl, MP.fdiv_ok, MP.mod_ok, MP.shl1_ok, MP.shl_ok, MP.shr_ok, MP.add_t, MP.add_lo, MP.add_so, MP.app_ok, MP.ext_ok, MP.rng1_ok, MP.rng2_ok, MP.eq_n, MP.ne_n, MP.isN_n, MP.isN_i, MP.isN_s, MP.isN_t, MP.isN_l, MP.isN_b, MP.tr_t, MP.tr_l, MP.tr_i, MP.kix_s, MP.look_c, MP.look_n, MP.ixd, MP.key_i, MP.key_s, MP.dl_c, MP.sum_ii, MP.sum_ss, MP.isi_tt, MP.isi_tl, MP.isi_ts, MP.isi_tb, MP.isi_ti, MP.isi_ll, MP.isi_lt, MP.isi_ss, MP.isi_st, MP.isi_sl, MP.isi_sb, MP.isi_si, MP.isi_is, MP.isi_it, MP.isi_il, MP.isi_bb, MP.isi_bi, MP.isi_bt, MP.isi_blx, MP.isi_nt, MP.isi_nl, MP.isi_nb, MP.isi_ni, MP.isi_ns, MP.eq_b, MP.sl12, MP.sl13, MP.sl14, MP.set12, MP.set13, MP.set14, MP.lc_t, MP.part_mn, MP.part_mc, MP.enuOk_l, MP.enuOk_t, MP.zip_i, MP.zipV_ll, MP.zipV_lt, MP.zipV_tl, MP.zipV_tt, MP.fs_v, MP.fs_o, MP.fsM_n, MP.fsM_c, MP.strOf_s, MP.sl_t, MP.sl_l, MP.mt_v, MP.mt_o, MP.mt_t, MP.mt_i, MP.ty_split, MP.ty_endswith, MP.ty_startswith, MP.ty_join, MP.ty_index, MP.ty_get, MP.csat_ok, MP.tsat_nx, MP.tsat_ct, MP.unlk_c, ↓reduceIte, String.reduceEq, Int.reduceEq, Int.reduceLT, Int.reduceLE, Int.reduceAdd, Int.reduceSub, Int.reduceMul, Int.reduceNeg, Int.reduceToNat, Nat.reduceAdd, Nat.reduceSub, List.length_cons, List.length_nil, Int.one_mul, Bool.not_true, Bool.not_false, Bool.and_true, Bool.true_and, Bool.and_false, Bool.false_and, Bool.or_true, Bool.true_or, Bool.or_false, Bool.false_or, List.isEmpty_cons, List.isEmpty_nil, List.cons_append, List.nil_append, List.append_nil, MP.Rich.io_law_tape, MP.Rich.io_law_draw, MP.Rich.io_law_name, MP.Rich.io_law_runs, MP.Rich.io_law_size, MP.Rich.io_law_any_word, MP.Rich.io_law_a_count, MP.Rich.io_law_a_field, MP.Rich.io_law_ranges, MP.Rich.io_law_a_number, MP.Rich.io_law_part, MP.Rich.io_law_case_numbers, MP.Rich.io_law_not_empty, MP.Rich.io_law_rich, MP.Rich.io_law_rich_item, MP.Rich.io_law_fixed, MP.Rich.io_law_rich_word, MP.Rich.io_law_rich_choice, $[$ts:term],*])
def StrsOk (us : List Str) : Prop := ∀ x ∈ us, PyData.strOk x = true
theorem StrsOk.snoc {us : List Str} {x : Str} (h : StrsOk us) (hx : NmOk x) : StrsOk (us ++ [x]) := fun y hy => by
  rcases List.mem_append.mp hy with hy | hy
  · exact h y hy
  · rw [List.mem_singleton.mp hy]; exact hx.1
theorem in5 (x : Str) : cmpop .in_ (.str x) (.tup [.str (S' "word"), .str (S' "choice"), .str (S' "literal"), .str (S' "reserved"), .str (S' "check")]) =
    some ([S' "word", S' "choice", S' "literal", S' "reserved", S' "check"].any fun y => decide (y = x)) := inS_t x [S' "word", S' "choice", S' "literal", S' "reserved", S' "check"]
section
variable {P : Prg} {I : Ix} {wn kk : Nat}
theorem Rich.part (H : Rich P I) (hk : 2 < kk) {t : List D} (tp : Tp t) {us : List Str} (hu : us.length ≤ 98) (hU : StrsOk us) {w : Int} {sg : Bool} {rs : Option Rs} (hw : 1 ≤ w) (hw2 : w ≤ 32) (hr : RsOk w sg rs) :
    CSat (callF P wn kk I.law_part [.own t, .own (us.map .str), .val (.tup [.int w, .bl sg, rsD rs])]) fun s ps => ∃ (p : Part) (us' : List Str) (t' : List D), s = .val p.d ∧ p.ok ∧ p.w = w ∧ StrsOk us' ∧ us'.length ≤ us.length + 1 ∧ ps = [.own t', .own (us'.map .str), .un] ∧ Tp t' := by
  obtain ⟨k, rfl⟩ : ∃ k, kk = k + 1 := ⟨kk - 1, by omega⟩
  rw [callF_succ P wn k H.law_part _ rfl]
  unfold F_law_part
  simp only [List.length_cons, List.length_nil, List.reduceReplicate, Nat.reduceSub, Nat.reduceAdd, List.cons_append, List.nil_append]
  wp_walk
  obtain ⟨r, t_r, e_r, tp, r0, r1, r2⟩ := H.draw (wn := wn) (kk := k) (by omega) tp (5) (by omega)
  replace r1 := r1 (by omega)
  wp_walk using e_r
  by_cases c : r = 0
  · wp_walk
    exact ⟨⟨none, w, false, none, none⟩, us, _, rfl, ⟨fun x h => (by cases h), hw, hw2, fun l h => (by cases h), fun i h => (by cases h)⟩, rfl, hU, by omega, rfl, tp⟩
  · wp_walk
    obtain ⟨_, _, e, x, t1, rfl, ⟨hx, _⟩, rfl, tp⟩ := (H.name (wn := wn) (kk := k) (by omega) tp (us := us) (by omega) hU).get
    have hz : (us.map D.str).length = us.length := List.length_map ..
    wp_walk using e, hz
    obtain ⟨_, _, e2, n, t2, rfl, hn, n0, n1, rfl, tp⟩ := (H.a_number (wn := wn) (kk := k) (by omega) tp hw hw2 hr).get
    wp_walk using e2
    obtain ⟨u, t_u, e_u, tp, u0, u1, u2⟩ := H.draw (wn := wn) (kk := k) (by omega) tp (2) (by omega)
    replace u1 := u1 (by omega)
    wp_walk using e_u
    have hz2 := map_snoc D.str us x
    by_cases c2 : u = 0
    · wp_walk using c2
      exact ⟨⟨some x, w, sg, rs, none⟩, us ++ [x], _, rfl, ⟨fun y h => (by cases h; exact hx), hw, hw2, hr, fun i h => (by cases h)⟩, rfl, hU.snoc hx, by simp, by rw [hz2], tp⟩
    · have c3 : u = 1 := by omega
      wp_walk using c3
      exact ⟨⟨some x, w, sg, rs, some n⟩, us ++ [x], _, rfl, ⟨fun y h => (by cases h; exact hx), hw, hw2, hr, fun i h => (by cases h; exact ⟨hn, n0, n1⟩)⟩, rfl, hU.snoc hx, by simp, by rw [hz2], tp⟩
theorem Rich.case_numbers (H : Rich P I) (hk : 1 < kk) {t : List D} (tp : Tp t) (w : Wd) {n : Int} (h0 : 0 ≤ n) (h1 : n ≤ 100) :
    CSat (callF P wn kk I.law_case_numbers [.own t, .val (.str w.str), .val (.int n)]) fun s ps => ∃ (ns : List Int) (t' : List D), s = .own (ns.map .int) ∧ ns.length = n.toNat ∧ (∀ x ∈ ns, 0 ≤ x ∧ x < 4294967296) ∧ ps = [.own t', .un, .un] ∧ Tp t' := by
  obtain ⟨k, rfl⟩ : ∃ k, kk = k + 1 := ⟨kk - 1, by omega⟩
  rw [callF_succ P wn k H.law_case_numbers _ rfl]
  unfold F_law_case_numbers
  simp only [List.length_cons, List.length_nil, List.reduceReplicate, Nat.reduceSub, Nat.reduceAdd, List.cons_append, List.nil_append]
  wp_walk
  have e := H.size (wn := wn) (kk := k) (by omega) w
  have hs : w.sz = 1 ∨ w.sz = 2 ∨ w.sz = 4 := by cases w <;> decide
  generalize w.sz = z at *
  wp_walk using e
  have key : ∃ ls : List Int, (dlook [Sum.inl 1, Sum.inl 2, Sum.inl 4] [D.lst [.int 1, .int 255, .int 37, .int 2], .lst [.int 1, .int 256, .int 257, .int 65535], .lst [.int 1, .int 256, .int 65536, .int 16777216]] (Sum.inl z)) = some (.lst (ls.map .int)) ∧ ls.length = 4 ∧ ∀ x ∈ ls, 1 ≤ x ∧ x ≤ 16777216 := by
    rcases hs with rfl | rfl | rfl
    · exact ⟨[1, 255, 37, 2], rfl, rfl, by decide⟩
    · exact ⟨[1, 256, 257, 65535], rfl, rfl, by decide⟩
    · exact ⟨[1, 256, 65536, 16777216], rfl, rfl, by decide⟩
  obtain ⟨ls, el, hl, hb⟩ := key
  simp only [dl_c, sum_ii] at el
  wp_walk using el
  obtain ⟨r, t_r, e_r, tp, r0, r1, r2⟩ := H.draw (wn := wn) (kk := k) (by omega) tp (4) (by omega)
  replace r1 := r1 (by omega)
  wp_walk using e_r
  obtain ⟨st, hm, e2⟩ := menu (xs := ls) r0 (by omega)
  have e3 : atI (ls.map D.int) r = some (.int st) := by rw [at_map, e2]; rfl
  have hst := hb st hm
  wp_walk using e3
  obtain ⟨b, t_b, e_b, tp, b0, b1, b2⟩ := H.draw (wn := wn) (kk := k) (by omega) tp (256) (by omega)
  replace b1 := b1 (by omega)
  wp_walk using e_b
  obtain ⟨d, t_d, e_d, tp, d0, d1, d2⟩ := H.draw (wn := wn) (kk := k) (by omega) tp (z) (by omega)
  replace d1 := d1 (by omega)
  wp_walk using e_d
  have hM : ∃ M : Int, (2 : Int) ^ (8 * z).toNat = M ∧ 0 < M ∧ M ≤ 4294967296 := by rcases hs with rfl | rfl | rfl <;> exact ⟨_, rfl, by decide, by decide⟩
  obtain ⟨M, eM, M0, M1⟩ := hM
  generalize b * 2 ^ (8 * d).toNat = B at *
  have e1 := lc_map (intL 0 n.toNat) D.int (fun x => D.int ((B + x * st) % M)) (own := [7]) (tgt := asgT (.v 7)) (ifs := ifsM []) (el := bnd (fz (ev P (callF P wn k) (.bin .mod (.bi .int [.bin .add (.var 6) (.bin .mul (.var 7) (.var 5))]) (.bin .shl (.int 1) (.bin .mul (.int 8) (.var 3))))).v) fun d => ret [d])
      (fr := [.own t_d, .val (.str w.str), .val (.int n), .val (.int z), .val (.lst (ls.map .int)), .val (.int st), .val (.int B), .un]) (lk := []) (fun x _ => by
        wp_walk using eM
        exact ⟨_, rfl, rfl⟩) (by rw [ints_len]; omega)
  wp_walk using upto_ints, e1
  refine ⟨(intL 0 n.toNat).map fun x => (B + x * st) % M, _, by rw [List.map_map]; rfl, by rw [List.length_map, ints_len], fun x hx => ?_, rfl, tp⟩
  obtain ⟨y, _, rfl⟩ := List.mem_map.mp hx
  have := Int.emod_nonneg (B + y * st) (b := M) (by omega)
  have := Int.emod_lt_of_pos (B + y * st) (b := M) M0
  omega
theorem Rich.not_empty (H : Rich P I) (hk : 1 < kk) {t : List D} (tp : Tp t) (its : List Item) (hl : its.length ≤ 1000) :
    CSat (callF P wn kk I.law_not_empty [.own t, .val (lay its)]) fun s ps => ∃ (its' : List Item) (t' : List D), s = .val (lay its') ∧ (its' = its ∨ ∃ b, 0 ≤ b ∧ b < 256 ∧ its' = its ++ [.lit [b]]) ∧ ps = [.own t', .un] ∧ Tp t' := by
  obtain ⟨k, rfl⟩ : ∃ k, kk = k + 1 := ⟨kk - 1, by omega⟩
  rw [callF_succ P wn k H.law_not_empty _ rfl]
  unfold F_law_not_empty
  simp only [List.length_cons, List.length_nil, List.reduceReplicate, Nat.reduceSub, Nat.reduceAdd, List.cons_append, List.nil_append]
  let sol : Item → Bool := fun i => match i with
    | .word _ _ => true
    | .cho _ _ _ => true
    | .lit _ => true
    | .res _ => true
    | .chk _ => true
    | _ => false
  have hlen : (its.flatMap fun i => if sol i then [i.d] else []).length ≤ 1000000 := by
    rw [flat_filter, List.length_map]
    have := List.length_filter_le sol its
    omega
  have e1 := lc_flat its Item.d (fun i => if sol i then [i.d] else []) (own := [2]) (tgt := asgT (.v 2)) (ifs := ifsM [ev P (callF P wn k) (.cmp .in_ (.ix (.var 2) (.int 0)) (.tup [.str "word", .str "choice", .str "literal", .str "reserved", .str "check"]))]) (el := bnd (fz (ev P (callF P wn k) (.var 2)).v) fun d => ret [d])
      (fr := [.own t, .val (lay its), .un]) (lk := []) (fun i _ => by
        cases i <;> (wp_walk using Item.d, in5, List.any_cons, List.any_nil; exact ⟨_, rfl, rfl⟩)) hlen
  have hz : (its.map Item.d).length = its.length := List.length_map ..
  wp_walk using e1, lay
  unfold lay at e1
  wp_walk using e1
  cases hb : (its.flatMap fun i => if sol i then [i.d] else []).isEmpty with
  | false =>
    wp_walk
    exact ⟨its, t, rfl, .inl rfl, rfl, tp⟩
  | true =>
    wp_walk
    obtain ⟨b, t_b, e_b, tp, b0, b1, b2⟩ := H.draw (wn := wn) (kk := k) (by omega) tp (256) (by omega)
    replace b1 := b1 (by omega)
    wp_walk using e_b, hz
    exact ⟨its ++ [.lit [b]], _, by rw [List.map_append]; rfl, .inr ⟨b, b0, b1, rfl⟩, rfl, tp⟩
theorem Rich.fixed (H : Rich P I) (hk : 1 < kk) {t : List D} (tp : Tp t) :
    CSat (callF P wn kk I.law_fixed [.own t]) fun s ps => ∃ (i : Item) (n : Int) (t' : List D), s = .val (.tup [i.d, .int n]) ∧ (i.ok (fun _ => False) ∧ (i.wt : Int) ≤ 16 * n) ∧ ps = [.own t'] ∧ Tp t' := by
  obtain ⟨k, rfl⟩ : ∃ k, kk = k + 1 := ⟨kk - 1, by omega⟩
  rw [callF_succ P wn k H.law_fixed _ rfl]
  unfold F_law_fixed
  simp only [List.length_cons, List.length_nil, List.reduceReplicate, Nat.reduceSub, Nat.reduceAdd, List.cons_append, List.nil_append]
  wp_walk
  obtain ⟨r, t_r, e_r, tp, r0, r1, r2⟩ := H.draw (wn := wn) (kk := k) (by omega) tp (6) (by omega)
  replace r1 := r1 (by omega)
  wp_walk using e_r
  obtain ⟨u, t_u, e_u, tp, u0, u1, u2⟩ := H.draw (wn := wn) (kk := k) (by omega) tp (60) (by omega)
  replace u1 := u1 (by omega)
  wp_walk using e_u
  obtain ⟨v, t_v, e_v, tp, v0, v1, v2⟩ := H.draw (wn := wn) (kk := k) (by omega) tp (4) (by omega)
  replace v1 := v1 (by omega)
  wp_walk using e_v
  obtain ⟨m, m0, m1, e_m⟩ := imenu [1, 2, 3, 1 + u] v (1) (60) (by intro x hx; simp only [List.mem_cons, List.not_mem_nil, or_false] at hx; omega) (by omega) (by simp only [List.length_cons, List.length_nil]; omega)
  simp only [List.map_cons, List.map_nil] at e_m
  wp_walk using e_m
  by_cases c : r < 2
  · by_cases c0 : r = 0
    · wp_walk using c0
      exact ⟨.chk false, 1, _, rfl, ⟨trivial, by decide⟩, rfl, tp⟩
    · have c1 : r = 1 := by omega
      wp_walk using c1
      exact ⟨.chk true, 1, _, rfl, ⟨trivial, by decide⟩, rfl, tp⟩
  · by_cases c2 : r = 2
    · wp_walk
      exact ⟨.res m, m, _, rfl, ⟨⟨m0, m1⟩, by show (0 : Int) ≤ _; omega⟩, rfl, tp⟩
    · by_cases c3 : r = 3
      · wp_walk
        refine ⟨.word .u8 [⟨none, 3, false, none, none⟩, ⟨none, 5, false, none, none⟩], 3, _, rfl, ⟨⟨by decide, ?_, by decide⟩, by show (2 : Int) ≤ _; omega⟩, rfl, tp⟩
        intro p hp
        simp only [List.mem_cons, List.not_mem_nil, or_false] at hp
        rcases hp with rfl | rfl
        · exact ⟨fun x h => (by cases h), by decide, by decide, fun l h => (by cases h), fun i h => (by cases h)⟩
        · exact ⟨fun x h => (by cases h), by decide, by decide, fun l h => (by cases h), fun i h => (by cases h)⟩
      · wp_walk
        obtain ⟨ds, fr', e, ⟨t', y, tp, rfl⟩, hR⟩ := lcL_gen (own := [3]) (tgt := asgT (.v 3)) (ifs := ifsM []) (el := bnd (fz (ev P (callF P wn k) (.call I.law_draw [.var 0, .int 256])).v) fun d => ret [d])
          (fun fr => ∃ (t' : List D) (y : Slot), Tp t' ∧ fr = [.own t', .val (.int r), .val (.int m), y]) (fun _ d => ∃ b : Int, d = [.int b] ∧ (0 ≤ b ∧ b < 256)) (upto 0 m.toNat) [.own t_v, .val (.int r), .val (.int m), .un] ⟨_, _, tp, rfl⟩ (by
            rintro x fr hx ⟨t', y, tp, rfl⟩
            obtain ⟨b, t2, e, tp, b0, b1, b2⟩ := H.draw (wn := wn) (kk := k) (by omega) tp 256 (by omega)
            have b1 := b1 (by omega)
            refine ⟨[.int b], [.own t2, .val (.int r), .val (.int m), .val x], ?_, ⟨t2, _, tp, rfl⟩, b, rfl, b0, b1⟩
            wp_walk using e)
        obtain ⟨bs, rfl, hl, hb⟩ := hR.ints
        rw [upto_len] at hl
        have hz : (bs.map D.int).length < sizeLine := by rw [List.length_map]; exact sz_lt (by omega)
        wp_walk using e, lcEnd_ok hz
        exact ⟨.lit bs, m, t', rfl, ⟨⟨by omega, by omega, hb⟩, by show (0 : Int) ≤ _; omega⟩, rfl, tp⟩
theorem Rich.rich_word (H : Rich P I) (hk : 4 < kk) {t : List D} (tp : Tp t) {us : List Str} (hu : us.length ≤ 90) (hU : StrsOk us) :
    CSat (callF P wn kk I.law_rich_word [.own t, .own (us.map .str)]) fun s ps => ∃ (w : Wd) (ps' : List Part) (us' : List Str) (t' : List D), s = .val (Item.word w ps').d ∧ (Item.word w ps').ok (fun _ => False) ∧ StrsOk us' ∧ us'.length ≤ us.length + 5 ∧ ps = [.own t', .own (us'.map .str)] ∧ Tp t' := by
  obtain ⟨k, rfl⟩ : ∃ k, kk = k + 1 := ⟨kk - 1, by omega⟩
  rw [callF_succ P wn k H.law_rich_word _ rfl]
  unfold F_law_rich_word
  simp only [List.length_cons, List.length_nil, List.reduceReplicate, Nat.reduceSub, Nat.reduceAdd, List.cons_append, List.nil_append]
  wp_walk
  obtain ⟨_, _, e, w, t', rfl, rfl, tp⟩ := (H.any_word (wn := wn) (kk := k) (by omega) tp).get
  wp_walk using e
  have e := H.size (wn := wn) (kk := k) (by omega) w
  have hs : 1 ≤ w.sz ∧ w.sz ≤ 4 := by cases w <;> decide
  wp_walk using e
  obtain ⟨r, t_r, e_r, tp, r0, r1, r2⟩ := H.draw (wn := wn) (kk := k) (by omega) tp (4) (by omega)
  replace r1 := r1 (by omega)
  wp_walk using e_r
  obtain ⟨m, m0, m1, e_m⟩ := imenu [1, 1, 2, 5] r (1) (5) (by intro x hx; simp only [List.mem_cons, List.not_mem_nil, or_false] at hx; omega) (by omega) (by simp only [List.length_cons, List.length_nil]; omega)
  simp only [List.map_cons, List.map_nil] at e_m
  wp_walk using e_m
  refine for_t (G := fun z => CSat (endF _ (qX _ (onFr _ z))) _) (fun j fr => ∃ (t' : List D) (us' : List Str) (left : Int) (qs : List Part) (y6 y7 y5 : Slot), Tp t' ∧ StrsOk us' ∧ us'.length ≤ us.length + j ∧ qs.length ≤ j ∧ (∀ p ∈ qs, p.ok) ∧ 0 ≤ left ∧ wsum qs + left = 8 * w.sz ∧
      fr = [.own t', .own (us'.map .str), .val (.str w.str), .val (.int left), .val (.tup (qs.map Part.d)), y5, y6, y7] ∧ left ≤ 32 ∧ y7 = .un) ⟨_, us, 8 * w.sz, [], .un, .un, .un, tp, hU, by omega, by simp, fun p h => (by cases h), by omega, (by show (0 : Int) + _ = _; omega), rfl, by omega, rfl⟩ ?_ ?_
  · rintro j d fr hj ⟨t', us', left, qs, y6, y7, y5, tp, hU', hu', hq, hP, l0, hsum, rfl, l32, rfl⟩
    have hj2 := (upto_at hj).1
    by_cases c : left > 0
    · let ws : List Int := [left, 8, 1, 2, 3, 5, 12, left].filter fun x => decide (x ≤ left)
      have hwl : ws.length ≤ 8 := List.length_filter_le _ _
      have e1 := lc_flat [left, 8, 1, 2, 3, 5, 12, left] D.int (fun x => if decide (x ≤ left) then [.int x] else []) (own := [7]) (tgt := asgT (.v 7)) (ifs := ifsM [ev P (callF P wn k) (.cmp .le (.var 7) (.var 3))]) (el := bnd (fz (ev P (callF P wn k) (.var 7)).v) fun d => ret [d])
          (fr := [.own t', .own (us'.map .str), .val (.str w.str), .val (.int left), .val (.tup (qs.map Part.d)), .val d, y6, .un]) (lk := []) (fun x _ => by
            by_cases cx : x ≤ left
            · rw [if_pos (decide_eq_true cx)]
              wp_walk using cx
              exact ⟨_, rfl, rfl⟩
            · rw [if_neg (by simpa using cx)]
              wp_walk using cx
              exact ⟨_, rfl, rfl⟩) (by rw [flat_filter, List.length_map]; show ws.length ≤ _; omega)
      rw [flat_filter] at e1
      change _ = Out.ok (ws.map D.int) _ at e1
      simp only [List.map_cons, List.map_nil] at e1
      have hws : ∀ x ∈ ws, 1 ≤ x ∧ x ≤ 32 ∧ x ≤ left := fun x hx => by
        have hx := List.mem_filter.mp hx
        have h2 := of_decide_eq_true hx.2
        have h1 := hx.1
        simp only [List.mem_cons, List.not_mem_nil, or_false] at h1
        omega
      have hne : ws ≠ [] := fun z => by
        have : left ∈ ws := List.mem_filter.mpr ⟨by simp, by simp⟩
        rw [z] at this; cases this
      generalize ws = ws at *
      have hz : (qs.map Part.d).length = qs.length := List.length_map ..
      wp_walk using e1
      obtain ⟨_, _, e2, v, sg, rs, t2, hv, rfl, hr, rfl, tp⟩ := (H.a_field (wn := wn) (kk := k) (by omega) tp (ws := ws) (by omega) hne (fun x hx => ⟨(hws x hx).1, (hws x hx).2.1⟩) (.inl rfl)).get
      wp_walk using e2
      have hv := hws v hv
      obtain ⟨_, _, e3, p, us2, t3, rfl, hp, hpw, hU2, hu2, rfl, tp⟩ := (H.part (wn := wn) (kk := k) (by omega) tp (us := us') (by omega) hU' (w := v) (sg := sg) (rs := rs) (by omega) (by omega) hr).get
      wp_walk using e3
      wp_walk using hz
      have e4 : index p.d (.int 1) = some (.val (.int p.w)) := rfl
      wp_walk using e4
      refine ⟨t3, us2, left - p.w, qs ++ [p], _, _, _, tp, hU2, by omega, by simp; omega, fun q hq => ?_, by omega, ?_, by rw [List.map_append]; rfl, by omega, rfl⟩
      · rcases List.mem_append.mp hq with hq | hq
        · exact hP q hq
        · rw [List.mem_singleton.mp hq]; exact hp
      · have : wsum (qs ++ [p]) = wsum qs + p.w := by unfold wsum; simp
        omega
    · wp_walk
      exact ⟨t', us', left, qs, _, _, _, tp, hU', by omega, by omega, hP, l0, hsum, rfl, l32, rfl⟩
  · rintro fr ⟨t', us', left, qs, y6, y7, y5, tp, hU', hu', hq, hP, l0, hsum, rfl, l32, rfl⟩
    rw [upto_len] at hu' hq
    have hz : (qs.map Part.d).length = qs.length := List.length_map ..
    by_cases c : left > 0
    · wp_walk using hz
      refine ⟨w, qs ++ [⟨none, left, false, none, none⟩], us', t', by rw [Item.d, List.map_append]; rfl, ⟨by simp; omega, fun q hq => ?_, ?_⟩, hU', by omega, rfl, tp⟩
      · rcases List.mem_append.mp hq with hq | hq
        · exact hP q hq
        · rw [List.mem_singleton.mp hq]; exact ⟨fun x h => (by cases h), by show 1 ≤ left; omega, l32, fun l h => (by cases h), fun i h => (by cases h)⟩
      · have : wsum (qs ++ [⟨none, left, false, none, none⟩]) = wsum qs + left := by unfold wsum; simp
        omega
    · wp_walk
      exact ⟨w, qs, us', t', rfl, ⟨by omega, hP, by omega⟩, hU', by omega, rfl, tp⟩
end
end MP

/-! MP: rich layouts: the recursion. -/
namespace MP
open PySem L2
local macro_rules | `(tactic| wp_walk) => `(tactic| simp -implicitDefEqProofs (disch := first | assumption | omega | (simp only [List.length_cons, List.length_nil, List.length_map, List.length_append]; omega)) only [MP.bnd_ap, MP.bX_ok, MP.thenS_ap, MP.tX_ok, MP.seqS_nx, MP.seqS_rt, MP.seqS_bk, MP.seqS_ct, MP.ret_ap, MP.opt_some, MP.when_true, MP.evB_nil, MP.evB_cons, MP.evS_asg, MP.evS_asgT, MP.evS_aug, MP.evS_setix, MP.evS_par, MP.sets_nil, MP.sets_cons, MP.evS_ex, MP.evS_ite, MP.evS_for, MP.evS_whl, MP.evS_ret, MP.evS_retN, MP.evS_brk, MP.evS_cont, MP.evS_pass, MP.selS_true, MP.selS_false, MP.selM_true, MP.selM_false, MP.slK_ap, MP.itK_ap, MP.tru_ap, MP.fz_ap, MP.var_v, MP.var_t, MP.var_o, MP.var_i, MP.int_v, MP.int_o, MP.str_v, MP.str_o, MP.bl_v, MP.bl_o, MP.bl_t, MP.non_v, MP.non_o, MP.glo_v, MP.glo_o, MP.glo_i, MP.tup_v, MP.tup_o, MP.tup_i, MP.lst_v, MP.lst_o, MP.lst_i, MP.bin_v, MP.bin_o, MP.bin_t, MP.bin_i, MP.negK_int, MP.neg_v, MP.neg_o, MP.not_v, MP.not_t, MP.not_o, MP.isB_bl, MP.and_v, MP.and_t, MP.and_o, MP.or_v, MP.or_t, MP.or_o, MP.cmp_t, MP.cmp_v, MP.cmp_o, MP.cmp2_t, MP.cmp2_v, MP.cmp2_o, MP.ite_v, MP.ite_o, MP.ite_i, MP.kix_v, MP.kix_o, MP.ix_v, MP.ix_o, MP.ix_t, MP.ix_i, MP.sl_v, MP.sl_o, MP.sl_i, MP.rev_v, MP.rev_o, MP.rev_i, MP.revK_t, MP.revK_l, MP.call_v, MP.call_o, MP.call_t, MP.call_i, MP.bi_v, MP.bi_o, MP.bi_t, MP.bi_i, MP.isi_v, MP.isi_o, MP.isi_t, MP.app_v, MP.ext_v, MP.pop_v, MP.pop_o, MP.revm_v, MP.rng_i, MP.dic_v, MP.dic_o, MP.lrng_v, MP.lrng_o, MP.lrng_i, MP.enu_i, MP.lc_v, MP.lc_o, MP.lc_i, MP.evs_nil, MP.evs_cons, MP.vals_nil, MP.vals_cons, MP.opds_nil, MP.opds_cons, MP.rdOs_nil, MP.rdOs_cons, MP.args_nil, MP.args_t, MP.args_f, MP.rdO_at, MP.rdO_sl, MP.d_val, MP.d_own, MP.d_lk, MP.opAt_ap, MP.opAtS_val, MP.opAtS_own, MP.opAtS_lk, MP.cap_ap, MP.capS_some, MP.retV_var, MP.retS_own, MP.retS_val, MP.ownAt_ap, MP.ownS_own, MP.chg_ap, MP.chgS_own, MP.chgO_some, MP.setAt_int, MP.itO_at', MP.itS_own, MP.itS_val, MP.itO_sl', MP.part_nil, MP.part_cons, MP.partK_int, MP.extK_lst, MP.callM_ap, MP.endC_ok, MP.takes_nil, MP.takes_at, MP.takes_sl, MP.backs_at, MP.backs_sl, MP.backs_nil, MP.lent_t, MP.lent_f, MP.lent_n, MP.endF_rt, MP.endF_nx, MP.onFr_nx, MP.onFr_rt, MP.unlk_nil, MP.retV_int, MP.retV_str, MP.retV_bl, MP.retV_non, MP.retV_glo, MP.retV_tup, MP.retV_lst, MP.retV_dic, MP.retV_bin, MP.retV_neg, MP.retV_not, MP.retV_and, MP.retV_or, MP.retV_cmp, MP.retV_cmp2, MP.retV_ite, MP.retV_kix, MP.retV_ix, MP.retV_sl, MP.retV_rev, MP.retV_call, MP.retV_bi, MP.retV_isi, MP.retV_mt, MP.retV_pop, MP.retV_lrng, MP.retV_lc, MP.retV_fs, MP.sl0, MP.sl1, MP.sl2, MP.sl3, MP.sl4, MP.sl5, MP.sl6, MP.sl7, MP.sl8, MP.sl9, MP.sl10, MP.sl11, MP.set0, MP.set1, MP.set2, MP.set3, MP.set4, MP.set5, MP.set6, MP.set7, MP.set8, MP.set9, MP.set10, MP.set11, MP.add_i, MP.sub_i, MP.pow_i, MP.and_i, MP.or_i, MP.xor_i, MP.eq_i, MP.ne_i, MP.lt_i, MP.le_i, MP.gt_i, MP.ge_i, MP.eq_s, MP.ne_s, MP.ix_l, MP.ix_t', MP.len_l, MP.len_t, MP.abs_i, MP.int_i, MP.max_i, MP.min_i, MP.list_l, MP.list_t, MP.list_s, MP.tuple_l, MP.omap_some, MP.obind_some, decide_true, decide_false, MP.tr_bl, MP.isi_ii, MP.isi_ib, MP.turnO_ap, MP.asgT_v, MP.asgT_tup, MP.asgTs_nil, MP.asgTs_cons, MP.forK_ap, MP.lcM_ap, MP.lcStep_ap, MP.wipeF_nil, MP.wipeF_cons, MP.putF_nil, MP.putF_cons, MP.ifsM_nil, MP.ifsM_cons, MP.seqI_l, MP.seqI_t, MP.seqI_s, MP.sEq, MP.atI_0, MP.atI_1, MP.atI_2, MP.atI_3, MP.atI_4, MP.atI_5, MP.atI_6, MP.atI_mapp, MP.atI_m1, MP.sz_if, MP.dlt_t, MP.dlt_f, MP.dle_t, MP.dle_f, MP.beq_t, MP.beq_f, MP.bne_t, MP.bne_f, MP.mul_okr, MP.mul_okl, MP.fdiv_ok, MP.mod_ok, MP.shl1_ok, MP.shl_ok, MP.shr_ok, MP.add_t, MP.add_lo, MP.add_so, MP.app_ok, MP.ext_ok, MP.rng1_ok, MP.rng2_ok, MP.eq_n, MP.ne_n, MP.isN_n, MP.isN_i, MP.isN_s, MP.isN_t, MP.isN_l, MP.isN_b, MP.tr_t, MP.tr_l, MP.tr_i, MP.kix_s, MP.look_c, MP.look_n, MP.ixd, MP.key_i, MP.key_s, MP.dl_c, MP.sum_ii, MP.sum_ss, MP.isi_tt, MP.isi_tl, MP.isi_ts, MP.isi_tb, MP.isi_ti, MP.isi_ll, MP.isi_lt, MP.isi_ss, MP.isi_st, MP.isi_sl, MP.isi_sb, MP.isi_si, MP.isi_is, MP.isi_it, MP.isi_il, MP.isi_bb, MP.isi_bi, MP.isi_bt, MP.isi_blx, MP.isi_nt, MP.isi_nl, MP.isi_nb, MP.isi_ni, MP.isi_ns, MP.eq_b, MP.sl12, MP.sl13, MP.sl14, MP.set12, MP.set13, MP.set14, MP.lc_t, MP.part_mn, MP.part_mc, MP.enuOk_l, MP.enuOk_t, MP.zip_i, MP.zipV_ll, MP.zipV_lt, MP.zipV_tl, MP.zipV_tt, MP.fs_v, MP.fs_o, MP.fsM_n, MP.fsM_c, MP.strOf_s, MP.sl_t, MP.sl_l, MP.mt_v, MP.mt_o, MP.mt_t, MP.mt_i, MP.ty_split, MP.ty_endswith, MP.ty_startswith, MP.ty_join, MP.ty_index, MP.ty_get, MP.csat_ok, MP.tsat_nx, MP.tsat_ct, MP.unlk_c, ↓reduceIte, String.reduceEq, Int.reduceEq, Int.reduceLT, Int.reduceLE, Int.reduceAdd, Int.reduceSub, Int.reduceMul, Int.reduceNeg, Int.reduceToNat, Nat.reduceAdd, Nat.reduceSub, List.length_cons, List.length_nil, Int.one_mul, Bool.not_true, Bool.not_false, Bool.and_true, Bool.true_and, Bool.and_false, Bool.false_and, Bool.or_true, Bool.true_or, Bool.or_false, Bool.false_or, List.isEmpty_cons, List.isEmpty_nil, List.cons_append, List.nil_append, List.append_nil, MP.Rich.io_law_tape, MP.Rich.io_law_draw, MP.Rich.io_law_name, MP.Rich.io_law_runs, MP.Rich.io_law_size, MP.Rich.io_law_any_word, MP.Rich.io_law_a_count, MP.Rich.io_law_a_field, MP.Rich.io_law_ranges, MP.Rich.io_law_a_number, MP.Rich.io_law_part, MP.Rich.io_law_case_numbers, MP.Rich.io_law_not_empty, MP.Rich.io_law_rich, MP.Rich.io_law_rich_item, MP.Rich.io_law_fixed, MP.Rich.io_law_rich_word, MP.Rich.io_law_rich_choice])
local macro_rules | `(tactic| wp_walk using $ts:term,*) => `(tactic| simp -implicitDefEqProofs (disch := first | assumption | omega | (simp only [List.length_cons, List.length_nil, List.length_map, List.length_append]; omega)) only [MP.bnd_ap, MP.bX_ok, MP.thenS_ap, MP.tX_ok, MP.seqS_nx, MP.seqS_rt, MP.seqS_bk, MP.seqS_ct, MP.ret_ap, MP.opt_some, MP.when_true, MP.evB_nil, MP.evB_cons, MP.evS_asg, MP.evS_asgT, MP.evS_aug, MP.evS_setix, MP.evS_par, MP.sets_nil, MP.sets_cons, MP.evS_ex, MP.evS_ite, MP.evS_for, MP.evS_whl, MP.evS_ret, MP.evS_retN, MP.evS_brk, MP.evS_cont, MP.evS_pass, MP.selS_true, MP.selS_false, MP.selM_true, MP.selM_false, MP.slK_ap, MP.itK_ap, MP.tru_ap, MP.fz_ap, MP.var_v, MP.var_t, MP.var_o, MP.var_i, MP.int_v, MP.int_o, MP.str_v, MP.str_o, MP.bl_v, MP.bl_o, MP.bl_t, MP.non_v, MP.non_o, MP.glo_v, MP.glo_o, MP.glo_i, MP.tup_v, MP.tup_o, MP.tup_i, MP.lst_v, MP.lst_o, MP.lst_i, MP.bin_v, MP.bin_o, MP.bin_t, MP.bin_i, MP.negK_int, MP.neg_v, MP.neg_o, MP.not_v, MP.not_t, MP.not_o, MP.isB_bl, MP.and_v, MP.and_t, MP.and_o, MP.or_v, MP.or_t, MP.or_o, MP.cmp_t, MP.cmp_v, MP.cmp_o, MP.cmp2_t, MP.cmp2_v, MP.cmp2_o, MP.ite_v, MP.ite_o, MP.ite_i, MP.kix_v, MP.kix_o, MP.ix_v, MP.ix_o, MP.ix_t, MP.ix_i, MP.sl_v, MP.sl_o, MP.sl_i, MP.rev_v, MP.rev_o, MP.rev_i, MP.revK_t, MP.revK_l, MP.call_v, MP.call_o, MP.call_t, MP.call_i, MP.bi_v, MP.bi_o, MP.bi_t, MP.bi_i, MP.isi_v, MP.isi_o, MP.isi_t, MP.app_v, MP.ext_v, MP.pop_v, MP.pop_o, MP.revm_v, MP.rng_i, MP.dic_v, MP.dic_o, MP.lrng_v, MP.lrng_o, MP.lrng_i, MP.enu_i, MP.lc_v, MP.lc_o, MP.lc_i, MP.evs_nil, MP.evs_cons, MP.vals_nil, MP.vals_cons, MP.opds_nil, MP.opds_cons, MP.rdOs_nil, MP.rdOs_cons, MP.args_nil, MP.args_t, MP.args_f, MP.rdO_at, MP.rdO_sl, MP.d_val, MP.d_own, MP.d_lk, MP.opAt_ap, MP.opAtS_val, MP.opAtS_own, MP.opAtS_lk, MP.cap_ap, MP.capS_some, MP.retV_var, MP.retS_own, MP.retS_val, MP.ownAt_ap, MP.ownS_own, MP.chg_ap, MP.chgS_own, MP.chgO_some, MP.setAt_int, MP.itO_at', MP.itS_own, MP.itS_val, MP.itO_sl', MP.part_nil, MP.part_cons, MP.partK_int, MP.extK_lst, MP.callM_ap, MP.endC_ok, MP.takes_nil, MP.takes_at, MP.takes_sl, MP.backs_at, MP.backs_sl, MP.backs_nil, MP.lent_t, MP.lent_f, MP.lent_n, MP.endF_rt, MP.endF_nx, MP.onFr_nx, MP.onFr_rt, MP.unlk_nil, MP.retV_int, MP.retV_str, MP.retV_bl, MP.retV_non, MP.retV_glo, MP.retV_tup, MP.retV_lst, MP.retV_dic, MP.retV_bin, MP.retV_neg, MP.retV_not, MP.retV_and, MP.retV_or, MP.retV_cmp, MP.retV_cmp2, MP.retV_ite, MP.retV_kix, MP.retV_ix, MP.retV_sl, MP.retV_rev, MP.retV_call, MP.retV_bi, MP.retV_isi, MP.retV_mt, MP.retV_pop, MP.retV_lrng, MP.retV_lc, MP.retV_fs, MP.sl0, MP.sl1, MP.sl2, MP.sl3, MP.sl4, MP.sl5, MP.sl6, MP.sl7, MP.sl8, MP.sl9, MP.sl10, MP.sl11, MP.set0, MP.set1, MP.set2, MP.set3, MP.set4, MP.set5, MP.set6, MP.set7, MP.set8, MP.set9, MP.set10, MP.set11, MP.add_i, MP.sub_i, MP.pow_i, MP.and_i, MP.or_i, MP.xor_i, MP.eq_i, MP.ne_i, MP.lt_i, MP.le_i, MP.gt_i, MP.ge_i, MP.eq_s, MP.ne_s, MP.ix_l, MP.ix_t', MP.len_l, MP.len_t, MP.abs_i, MP.int_i, MP.max_i, MP.min_i, MP.list_l, MP.list_t, MP.list_s, MP.tuple_l, MP.omap_some, MP.obind_some, decide_true, decide_false, MP.tr_bl, MP.isi_ii, MP.isi_ib, MP.turnO_ap, MP.asgT_v, MP.asgT_tup, MP.asgTs_nil, MP.asgTs_cons, MP.forK_ap, MP.lcM_ap, MP.lcStep_ap, MP.wipeF_nil, MP.wipeF_cons, MP.putF_nil, MP.putF_cons, MP.ifsM_nil, MP.ifsM_cons, MP.seqI_l, MP.seqI_t, MP.seqI_s, MP.sEq, MP.atI_0, MP.atI_1, MP.atI_2, MP.atI_3, MP.atI_4, MP.atI_5, MP.atI_6, MP.atI_mapp, MP.atI_m1, MP.sz_if, MP.dlt_t, MP.dlt_f, MP.dle_t, MP.dle_f, MP.beq_t, MP.beq_f, MP.bne_t, MP.bne_f, MP.mul_okr, MP.mul_okl, MP.fdiv_ok, MP.mod_ok, MP.shl1_ok, MP.shl_ok, MP.shr_ok, MP.add_t, MP.add_lo, MP.add_so, MP.app_ok, MP.ext_ok, MP.rng1_ok, MP.rng2_ok, MP.eq_n, MP.ne_n, MP.isN_n, MP.isN_i, MP.isN_s, MP.isN_t, MP.isN_l, MP.isN_b, MP.tr_t, MP.tr_l, MP.tr_i, MP.kix_s, MP.look_c, MP.look_n, MP.ixd, MP.key_i, MP.key_s, MP.dl_c, MP.sum_ii, MP.sum_ss, MP.isi_tt, MP.isi_tl, MP.isi_ts, MP.isi_tb, MP.isi_ti, MP.isi_ll, MP.isi_lt, MP.isi_ss, MP.isi_st, MP.isi_sl, MP.isi_sb, MP.isi_si, MP.isi_is, MP.isi_it, MP.isi_il, MP.isi_bb, MP.isi_bi, MP.isi_bt, MP.isi_blx, MP.isi_nt, MP.isi_nl, MP.isi_nb, MP.isi_ni, MP.isi_ns, MP.eq_b, MP.sl12, MP.sl13, MP.sl14, MP.set12, MP.set13, MP.set14, MP.lc_t, MP.part_mn, MP.part_mc, MP.enuOk_l, MP.enuOk_t, MP.zip_i, MP.zipV_ll, MP.zipV_lt, MP.zipV_tl, MP.zipV_tt, MP.fs_v, MP.fs_o, MP.fsM_n, MP.fsM_c, MP.strOf_s, MP.sl_t, MP.sl_l, MP.mt_v, MP.mt_o, MP.mt_t, MP.mt_i, MP.ty_split, MP.ty_endswith, MP.ty_startswith, MP.ty_join, MP.ty_index, MP.ty_get, MP.csat_ok, MP.tsat_nx, MP.tsat_ct, MP.unlk_c, ↓reduceIte, String.reduceEq, Int.reduceEq, Int.reduceLT, Int.reduceLE, Int.reduceAdd, Int.reduceSub, Int.reduceMul, Int.reduceNeg, Int.reduceToNat, Nat.reduceAdd, Nat.reduceSub, List.length_cons, List.length_nil, Int.one_mul, Bool.not_true, Bool.not_false, Bool.and_true, Bool.true_and, Bool.and_false, Bool.false_and, Bool.or_true, Bool.true_or, Bool.or_false, Bool.false_or, List.isEmpty_cons, List.isEmpty_nil, List.cons_append, List.nil_append, List.append_nil, MP.Rich.io_law_tape, MP.Rich.io_law_draw, MP.Rich.io_law_name, MP.Rich.io_law_runs, MP.Rich.io_law_size, MP.Rich.io_law_any_word, MP.Rich.io_law_a_count, MP.Rich.io_law_a_field, MP.Rich.io_law_ranges, MP.Rich.io_law_a_number, MP.Rich.io_law_part, MP.Rich.io_law_case_numbers, MP.Rich.io_law_not_empty, MP.Rich.io_law_rich, MP.Rich.io_law_rich_item, MP.Rich.io_law_fixed, MP.Rich.io_law_rich_word, MP.Rich.io_law_rich_choice, $[$ts:term],*])
/-- what stands inside an item at a depth -/
def LayP : Nat → List Item → Prop
  | 0 => fun _ => False
  | n + 1 => Lay n
theorem lay_of {d : Nat} {its : List Item} (hl : its.length ≤ 10) (h : ∀ i ∈ its, i.ok (LayP d)) : Lay d its := by
  cases d with
  | zero => exact ⟨hl, h⟩
  | succ n => exact ⟨hl, h⟩
theorem Lay.len {d : Nat} {its : List Item} (h : Lay d its) : its.length ≤ 10 := by
  cases d <;> exact h.1
theorem Lay.all {d : Nat} {its : List Item} (h : Lay d its) : ∀ i ∈ its, i.ok (LayP d) := by
  cases d <;> exact h.2
theorem Lay.rev {d : Nat} {its : List Item} (h : Lay d its) : Lay d its.reverse :=
  lay_of (by rw [List.length_reverse]; exact h.len) fun i hi => h.all i (List.mem_reverse.mp hi)
theorem lay_rev (its : List Item) : (its.map Item.d).reverse = its.reverse.map Item.d := List.map_reverse.symm
theorem str_snoc (us : List Str) (x : Str) : us.map D.str ++ [D.str x] = (us ++ [x]).map D.str := by simp
theorem case_snoc (cs : List Case) (c : Case) (h : D) (e : c.d = h) : cs.map Case.d ++ [h] = (cs ++ [c]).map Case.d := by simp [e]
section
variable {P : Prg} {I : Ix} {wn kk : Nat}
def RichC (P : Prg) (I : Ix) (wn d : Nat) : Prop := ∀ (kk : Nat), 3 * d + 6 < kk → ∀ (t : List D), Tp t → ∀ room : Int, CSat (callF P wn kk I.law_rich [.own t, .val (.int d), .val (.int room)]) fun s ps =>
  ∃ (its : List Item) (sp : Int) (t' : List D), s = .val (.tup [lay its, .int sp]) ∧ Lay d its ∧ (its.length ≤ 9 ∧ (Item.wts its : Int) ≤ 16 * sp ∧ (sp = 0 ∨ sp ≤ room)) ∧ ps = [.own t', .un, .un] ∧ Tp t'
theorem Rich.choice (H : Rich P I) {e : Nat} (IH : RichC P I wn e) (hk : 3 * e + 7 < kk) {t : List D} (tp : Tp t) {nm : Str} (hn : NmOk nm) (room : Int) :
    CSat (callF P wn kk I.law_rich_choice [.own t, .val (.str nm), .val (.int ((e : Int) + 1)), .val (.int room)]) fun s ps =>
      ∃ (i : Item) (n : Int) (t' : List D), s = .val (.tup [i.d, .int n]) ∧ (i.ok (Lay e) ∧ (i.wt : Int) ≤ 16 * n) ∧ ps = [.own t', .un, .un, .un] ∧ Tp t' := by
  obtain ⟨k, rfl⟩ : ∃ k, kk = k + 1 := ⟨kk - 1, by omega⟩
  rw [callF_succ P wn k H.law_rich_choice _ rfl]
  have e1 : (e : Int) + 1 - 1 = e := by omega
  obtain ⟨_, _, e0, w, t', rfl, rfl, tp⟩ := (H.any_word (wn := wn) (kk := k) (by omega) tp).get
  have body : ∀ (q many : Int) (x4 : Slot) (t : List D), Tp t → 1 ≤ many → many ≤ 9 → CSat (endF [true, false, false, false] (evB P (callF P wn k) wn ((F_law_rich_choice I).body.drop 2) [.own t, .val (.str nm), .val (.int ((e : Int) + 1)), .val (.int room), .val (.str w.str), .val (.int many), .un, .un, .un, .un, .un, .un])) fun s ps =>
      ∃ (i : Item) (n : Int) (t' : List D), s = .val (.tup [i.d, .int n]) ∧ (i.ok (Lay e) ∧ (i.wt : Int) ≤ 16 * n) ∧ ps = [.own t', .un, .un, .un] ∧ Tp t' := by
    intro _ many _ t tp hm0 hm1
    unfold F_law_rich_choice
    simp only [List.drop_succ_cons, List.drop_zero]
    wp_walk
    obtain ⟨a, t_a, e_a, tp, a0, a1, a2⟩ := H.draw (wn := wn) (kk := k) (by omega) tp (3) (by omega)
    replace a1 := a1 (by omega)
    wp_walk using e_a
    have again : ∀ (t : List D), Tp t → ∃ (its : List Item) (sp : Int) (t' : List D), callF P wn k I.law_rich [.own t, .val (.int e), .val (.int ((room - 5) / many - 1))] = .ok (.val (.tup [lay its, .int sp])) [.own t', .un, .un] ∧ (Lay e its ∧ (Item.wts its : Int) ≤ 16 * sp) ∧ Tp t' := fun t tp => by
      obtain ⟨_, _, e3, its, sp, t', rfl, h1, h2, rfl, h3⟩ := (IH k (by omega) t tp ((room - 5) / many - 1)).get
      exact ⟨its, sp, t', e3, ⟨h1, h2.2.1⟩, h3⟩
    obtain ⟨its, sp, t1, e2, ⟨hL, hW⟩, tp⟩ := again _ tp
    wp_walk using e1, e2
    obtain ⟨_, _, e4, ns, t2, rfl, hnl, hnb, rfl, tp⟩ := (H.case_numbers (wn := wn) (kk := k) (by omega) tp w (n := many) (by omega) (by omega)).get
    wp_walk using e4
    refine for_t (G := fun z => CSat (endF _ (qX _ (onFr _ z))) _) (fun j fr => ∃ (t' : List D) (us : List Str) (cs : List Case) (its : List Item) (sp n : Int) (y : Slot), Tp t' ∧ StrsOk us ∧ us.length ≤ j ∧ cs.length = j ∧ (∀ c ∈ cs, 0 ≤ c.n ∧ c.n < 4294967296 ∧ NmOk c.nm ∧ Lay e c.its) ∧ (Lay e its ∧ (Item.wts its : Int) ≤ 16 * sp ∧ us = cs.map Case.nm ∧ us.Nodup ∧ ((1 + Case.wts cs : Nat) : Int) ≤ 16 * n) ∧
      fr = [.own t', .val (.str nm), .val (.int ((e : Int) + 1)), .val (.int room), .val (.str w.str), .val (.int many), .val (.bl (a == 0)), .val (.tup [lay its, .int sp]), .val (.tup (cs.map Case.d)), .own (us.map .str), .val (.int n), y])
      ⟨t2, [], [], its, sp, 5, .un, tp, (fun x h => by cases h), by simp, rfl, (fun c h => by cases h), ⟨hL, hW, rfl, List.nodup_nil, by show (1 : Int) ≤ _; omega⟩, rfl⟩ ?_ ?_
    · rintro j d fr hj ⟨t', us, cs, its, sp, n, y, tp, hU, hu, hc, hC, ⟨hL, hW, hus, hnd, hT⟩, rfl⟩
      obtain ⟨x, hx, rfl⟩ := map_ix hj
      have hj2 : j < ns.length := (List.getElem?_eq_some_iff.mp hx).1
      have hxb := hnb x (List.mem_of_getElem? hx)
      wp_walk
      obtain ⟨_, _, e5, y1, t3, rfl, ⟨hy, hyn⟩, rfl, tp⟩ := (H.name (wn := wn) (kk := k) (by omega) tp (us := us) (by omega) hU).get
      have hxs : atI [lay its, D.int sp] 0 = some (lay its) := atI_0 _ _
      wp_walk using e5
      have newC : ∀ c ∈ cs ++ [Case.mk x y1 its], 0 ≤ c.n ∧ c.n < 4294967296 ∧ NmOk c.nm ∧ Lay e c.its := fun c hcm => by
        rcases List.mem_append.mp hcm with h | h
        · exact hC c h
        · rw [List.mem_singleton.mp h]; exact ⟨hxb.1, hxb.2, hy, hL⟩
      have eC : cs.map Case.d ++ [D.tup [.int x, .str y1, lay its]] = (cs ++ [Case.mk x y1 its]).map Case.d := case_snoc cs _ _ (by rw [Case.d, Item.ds_map]; rfl)
      have hus2 : us ++ [y1] = (cs ++ [Case.mk x y1 its]).map Case.nm := by rw [hus, List.map_append]; rfl
      have hnd2 : (us ++ [y1]).Nodup := List.nodup_append.mpr ⟨hnd, by simp, fun a ha b hb => by rw [List.mem_singleton.mp hb]; intro e; exact hyn (by rw [← e]; exact ha)⟩
      have hT2 : ((1 + Case.wts (cs ++ [Case.mk x y1 its]) : Nat) : Int) ≤ 16 * (n + 1 + sp) := by
        rw [Case.wts_snoc]
        have : (Case.mk x y1 its).wt = Item.wts its := by rw [Case.wt]
        rw [this]; omega
      by_cases ca : a = 0
      · wp_walk using beq_t ca, lay, lay_rev
        exact ⟨t3, us ++ [y1], cs ++ [Case.mk x y1 its], its.reverse, sp, _, _, tp, hU.snoc hy, by simp; omega, by simp [hc], newC, ⟨hL.rev, by rw [Item.wts_rev]; exact hW, hus2, hnd2, hT2⟩, by rw [← eC, ← str_snoc]; rfl⟩
      · obtain ⟨its', sp', t4, e6, ⟨hL', hW'⟩, tp⟩ := again _ tp
        wp_walk using beq_f ca, e1, e6
        exact ⟨t4, us ++ [y1], cs ++ [Case.mk x y1 its], its', sp', _, _, tp, hU.snoc hy, by simp; omega, by simp [hc], newC, ⟨hL', hW', hus2, hnd2, hT2⟩, by rw [← eC, ← str_snoc]⟩
    · rintro fr ⟨t', us, cs, its, sp, n, y, tp, hU, hu, hc, hC, ⟨hL, hW, hus, hnd, hT⟩, rfl⟩
      rw [List.length_map] at hc hu
      wp_walk
      exact ⟨.cho nm w cs, n, t', by rw [Item.d, Case.ds_map], ⟨⟨hn, ⟨fun z => by rw [z] at hc; have : ns.length = 0 := hc.symm; omega, by rw [← hus]; exact hnd⟩, by omega, hC⟩, by rw [Item.wt]; exact hT⟩, rfl, tp⟩
  have eb : (F_law_rich_choice I).body = (F_law_rich_choice I).body.take 2 ++ (F_law_rich_choice I).body.drop 2 := rfl
  rw [eb]
  generalize (F_law_rich_choice I).body.drop 2 = tl at body
  unfold F_law_rich_choice
  simp only [List.length_cons, List.length_nil, List.reduceReplicate, Nat.reduceSub, Nat.reduceAdd, List.cons_append, List.nil_append, List.take_succ_cons, List.take_zero]
  by_cases c : (e : Int) + 1 > 2
  · wp_walk using e0
    obtain ⟨u, t_u, e_u, tp, u0, u1, u2⟩ := H.draw (wn := wn) (kk := k) (by omega) tp (4) (by omega)
    replace u1 := u1 (by omega)
    wp_walk using e_u
    obtain ⟨m, m0, m1, e_m⟩ := imenu [1, 2, 3, 9] u (1) (9) (by intro x hx; simp only [List.mem_cons, List.not_mem_nil, or_false] at hx; omega) (by omega) (by simp only [List.length_cons, List.length_nil]; omega)
    simp only [List.map_cons, List.map_nil] at e_m
    wp_walk using e_m
    exact body 0 m .un _ tp m0 m1
  · wp_walk using e0
    obtain ⟨u, t_u, e_u, tp, u0, u1, u2⟩ := H.draw (wn := wn) (kk := k) (by omega) tp (4) (by omega)
    replace u1 := u1 (by omega)
    wp_walk using e_u
    obtain ⟨m, m0, m1, e_m⟩ := imenu [1, 2, 3, 6] u (1) (9) (by intro x hx; simp only [List.mem_cons, List.not_mem_nil, or_false] at hx; omega) (by omega) (by simp only [List.length_cons, List.length_nil]; omega)
    simp only [List.map_cons, List.map_nil] at e_m
    wp_walk using e_m
    exact body 0 m .un _ tp m0 m1
theorem Rich.item (H : Rich P I) {d : Nat} (IH : ∀ e, d = e + 1 → RichC P I wn e) (hk : 3 * d + 5 < kk) {t : List D} (tp : Tp t) {us : List Str} (hu : us.length ≤ 80) (hU : StrsOk us) (room : Int) :
    CSat (callF P wn kk I.law_rich_item [.own t, .own (us.map .str), .val (.int d), .val (.int room)]) fun s ps =>
      ∃ (i : Item) (n : Int) (us' : List Str) (t' : List D), s = .val (.tup [i.d, .int n]) ∧ (i.ok (LayP d) ∧ (i.wt : Int) ≤ 16 * n) ∧ StrsOk us' ∧ us'.length ≤ us.length + 5 ∧ ps = [.own t', .own (us'.map .str), .un, .un] ∧ Tp t' := by
  obtain ⟨k, rfl⟩ : ∃ k, kk = k + 1 := ⟨kk - 1, by omega⟩
  rw [callF_succ P wn k H.law_rich_item _ rfl]
  have eb : (F_law_rich_item I).body = (F_law_rich_item I).body.take 3 ++ (F_law_rich_item I).body.drop 3 := rfl
  obtain ⟨r, t_r, e_r, tp, r0, r1, r2⟩ := H.draw (wn := wn) (kk := k) (by omega) tp 10 (by omega)
  replace r1 := r1 (by omega)
  have opens : ∀ tl : List S, CSat (endF (F_law_rich_item I).io (evB P (callF P wn k) wn ((F_law_rich_item I).body.take 3 ++ tl) ([.own t, .own (us.map .str), .val (.int d), .val (.int room)] ++ List.replicate ((F_law_rich_item I).ns - (F_law_rich_item I).io.length) .un))) = CSat (endF [true, true, false, false] (evB P (callF P wn k) wn ((F_law_rich_item I).body.take 3 ++ tl) [.own t, .own (us.map .str), .val (.int d), .val (.int room), .un, .un, .un, .un, .un, .un, .un])) := fun _ => rfl
  rw [eb, opens]
  by_cases c2 : r < 2
  · unfold F_law_rich_item
    simp only [List.take_succ_cons, List.take_zero, List.cons_append, List.nil_append]
    wp_walk using e_r
    obtain ⟨_, _, e0, i, n, t', rfl, ⟨hi, hiw⟩, rfl, tp⟩ := (H.fixed (wn := wn) (kk := k) (by omega) tp).get
    wp_walk using e0
    exact ⟨i, n, us, t', rfl, ⟨hi.mono fun _ h => h.elim, hiw⟩, hU, by omega, rfl, tp⟩
  · by_cases c5 : r < 5 ∨ (r > 5 ∧ d = 0)
    · generalize (F_law_rich_item I).body.drop 3 = tl
      unfold F_law_rich_item
      simp only [List.take_succ_cons, List.take_zero, List.cons_append, List.nil_append]
      obtain ⟨_, _, e0, w, qs, us', t', rfl, hi, hU', hu', rfl, tp⟩ := (H.rich_word (wn := wn) (kk := k) (by omega) tp (us := us) (by omega) hU).get
      rcases c5 with c5 | ⟨c6, rfl⟩
      · wp_walk using e_r, e0
        exact ⟨.word w qs, 8, us', t', rfl, ⟨hi, by rw [Item.wt]; have := hi.1; omega⟩, hU', hu', rfl, tp⟩
      · have : ¬ r < 5 := by omega
        wp_walk using e_r, e0
        exact ⟨.word w qs, 8, us', t', rfl, ⟨hi, by rw [Item.wt]; have := hi.1; omega⟩, hU', hu', rfl, tp⟩
    · have h5 : ¬ r < 5 := by omega
      have hd : r > 5 → 0 < d := by omega
      have hne : ∀ c, r > 5 → ((d : Int) == 0) = c → c = false := fun c h e => by rw [← e]; exact beq_f (by have := hd h; omega)
      have low : r = 5 → decide ((5 : Int) < r) = false := fun h => by rw [h]; rfl
      have names : ∃ (x : Str) (t1 : List D), callF P wn k I.law_name [.own t_r, .own (us.map .str)] = .ok (.val (.str x)) [.own t1, .own (us.map .str)] ∧ NmOk x ∧ Tp t1 := by
        obtain ⟨_, _, e0, x, t1, rfl, ⟨hx, _⟩, rfl, tp⟩ := (H.name (wn := wn) (kk := k) (by omega) tp (us := us) (by omega) hU).get
        exact ⟨x, t1, e0, hx, tp⟩
      obtain ⟨x, t1, e0, hx, tp⟩ := names
      have hU' := hU.snoc hx
      have hu' : (us ++ [x]).length ≤ us.length + 5 := by simp
      have again : ∀ (e : Nat), d = e + 1 → ∀ (t : List D), Tp t → ∀ rm : Int, ∃ (its : List Item) (sp : Int) (t' : List D), callF P wn k I.law_rich [.own t, .val (.int e), .val (.int rm)] = .ok (.val (.tup [lay its, .int sp])) [.own t', .un, .un] ∧ (Lay e its ∧ (Item.wts its : Int) ≤ 16 * sp) ∧ its.length ≤ 9 ∧ Tp t' := fun e he t tp rm => by
        obtain ⟨_, _, e3, its, sp, t', rfl, h1, h2, rfl, h3⟩ := (IH e he k (by omega) t tp rm).get
        exact ⟨its, sp, t', e3, ⟨h1, h2.2.1⟩, h2.1, h3⟩
      have tail : r = 5 ∨ 0 < d → ¬ r = 9 → CSat (endF [true, true, false, false] (evB P (callF P wn k) wn ((F_law_rich_item I).body.drop 6) [.own t1, .own ((us ++ [x]).map .str), .val (.int d), .val (.int room), .val (.int r), .un, .un, .un, .un, .un, .un])) fun s ps =>
          ∃ (i : Item) (n : Int) (us' : List Str) (t' : List D), s = .val (.tup [i.d, .int n]) ∧ (i.ok (LayP d) ∧ (i.wt : Int) ≤ 16 * n) ∧ StrsOk us' ∧ us'.length ≤ us.length + 5 ∧ ps = [.own t', .own (us'.map .str), .un, .un] ∧ Tp t' := by
        intro h h9
        have elast : atI ((us ++ [x]).map D.str) (-1) = some (.str x) := by rw [List.map_append]; exact atI_mapp _ _
        generalize us ++ [x] = vs at *
        unfold F_law_rich_item
        simp only [List.drop_succ_cons, List.drop_zero]
        wp_walk
        obtain ⟨u, t_u, e_u, tp, u0, u1, u2⟩ := H.draw (wn := wn) (kk := k) (by omega) tp (60) (by omega)
        replace u1 := u1 (by omega)
        wp_walk using e_u
        obtain ⟨v, t_v, e_v, tp, v0, v1, v2⟩ := H.draw (wn := wn) (kk := k) (by omega) tp (4) (by omega)
        replace v1 := v1 (by omega)
        wp_walk using e_v
        obtain ⟨m, m0, m1, e_m⟩ := imenu [1, 2, 3, 1 + u] v (1) (60) (by intro x hx; simp only [List.mem_cons, List.not_mem_nil, or_false] at hx; omega) (by omega) (by simp only [List.length_cons, List.length_nil]; omega)
        simp only [List.map_cons, List.map_nil] at e_m
        wp_walk using e_m
        obtain ⟨a, t_a, e_a, tp, a0, a1, a2⟩ := H.draw (wn := wn) (kk := k) (by omega) tp (m + 1) (by omega)
        replace a1 := a1 (by omega)
        wp_walk using e_a
        obtain ⟨b, t_b, e_b, tp, b0, b1, b2⟩ := H.draw (wn := wn) (kk := k) (by omega) tp (3) (by omega)
        replace b1 := b1 (by omega)
        wp_walk using e_b
        obtain ⟨l, l0, l1, e_l⟩ := imenu [0, m, a] b (0) (m) (by intro x hx; simp only [List.mem_cons, List.not_mem_nil, or_false] at hx; omega) (by omega) (by simp only [List.length_cons, List.length_nil]; omega)
        simp only [List.map_cons, List.map_nil] at e_l
        wp_walk using e_l
        obtain ⟨_, _, e1, c, t2, rfl, ⟨hc, hch⟩, rfl, tp⟩ := (H.a_count (wn := wn) (kk := k) (by omega) tp (lo := l) (hi := m) l0 l1 m0 m1).get
        wp_walk using e1
        by_cases c5 : r = 5
        · wp_walk
          obtain ⟨_, _, e2, w, sg, rs, t3, hw, rfl, hr, rfl, tp⟩ := (H.a_field (wn := wn) (kk := k) (by omega) tp (ws := [8, 8, 16, 32]) (by simp) (by simp) (by intro x hx; simp only [List.mem_cons, List.not_mem_nil, or_false] at hx; omega) (.inr rfl)).get
          simp only [List.map_cons, List.map_nil] at e2
          wp_walk using e2
          have hw : w = 8 ∨ w = 16 ∨ w = 32 := by simp only [List.mem_cons, List.not_mem_nil, or_false] at hw; omega
          have key : ∃ p q : Wd, (dlook [Sum.inl 8, Sum.inl 16, Sum.inl 32] [D.lst [.str (S' "u8"), .str (S' "u8")], .lst [.str (S' "u16be"), .str (S' "u16le")], .lst [.str (S' "u32be"), .str (S' "u32le")]] (Sum.inl w)) = some (.lst [.str p.str, .str q.str]) ∧ 8 * p.sz = w ∧ 8 * q.sz = w := by
            rcases hw with rfl | rfl | rfl
            · exact ⟨.u8, .u8, rfl, rfl, rfl⟩
            · exact ⟨.u16be, .u16le, rfl, rfl, rfl⟩
            · exact ⟨.u32be, .u32le, rfl, rfl, rfl⟩
          obtain ⟨p, q, ed, hp, hq⟩ := key
          simp only [dl_c, sum_ii] at ed
          wp_walk using ed
          obtain ⟨g, t_g, e_g, tp, g0, g1, g2⟩ := H.draw (wn := wn) (kk := k) (by omega) tp (2) (by omega)
          replace g1 := g1 (by omega)
          wp_walk using e_g
          have key2 : ∃ p' : Wd, atI [D.str p.str, .str q.str] g = some (.str p'.str) ∧ 8 * p'.sz = w := by
            have : g = 0 ∨ g = 1 := by omega
            rcases this with rfl | rfl
            · exact ⟨p, rfl, hp⟩
            · exact ⟨q, rfl, hq⟩
          obtain ⟨p', ep, hp'⟩ := key2
          wp_walk using ep
          obtain ⟨_, _, e3, n, t4, rfl, hn, n0, n1, rfl, tp⟩ := (H.a_number (wn := wn) (kk := k) (by omega) tp (w := w) (sg := sg) (rs := rs) (by omega) (by omega) hr).get
          wp_walk using e3
          obtain ⟨f, t_f, e_f, tp, f0, f1, f2⟩ := H.draw (wn := wn) (kk := k) (by omega) tp (2) (by omega)
          replace f1 := f1 (by omega)
          wp_walk using e_f
          have key3 : ∃ df : Option Int, atI [D.non, .int n] f = some (oD .int df) ∧ DfOk w sg rs df := by
            have : f = 0 ∨ f = 1 := by omega
            rcases this with rfl | rfl
            · exact ⟨none, rfl, fun i h => (by cases h)⟩
            · exact ⟨some n, rfl, fun i h => (by cases h; exact ⟨hn, n0, n1⟩)⟩
          obtain ⟨df, ef, hdf⟩ := key3
          wp_walk using ef, elast
          exact ⟨.arr x p' sg c rs df, _, vs, _, rfl, ⟨⟨hx, hc, by rw [hp']; exact hr, by rw [hp']; exact hdf⟩, by rw [Item.wt, hch]; omega⟩, hU', hu', rfl, tp⟩
        · obtain ⟨e, rfl⟩ : ∃ e, d = e + 1 := ⟨d - 1, by omega⟩
          have e1 : ((e + 1 : Nat) : Int) - 1 = e := by omega
          wp_walk using e1
          obtain ⟨its, sp, t3, e2, ⟨hL, hW⟩, hl9, tp⟩ := again e rfl _ tp ((room - 5) / m - 2)
          wp_walk using e2, elast
          obtain ⟨_, _, e3, its', t4, rfl, hi, rfl, tp⟩ := (H.not_empty (wn := wn) (kk := k) (by omega) tp its (by omega)).get
          wp_walk using e3
          have hW2 : Item.wts its' = Item.wts its := by
            rcases hi with rfl | ⟨bb, b0, b1, rfl⟩
            · rfl
            · rw [Item.wts_snoc, Item.wt]; omega
          have hW3 : ((Item.lst x c its').wt : Int) ≤ 16 * (5 + m * (sp + 2)) := by
            rw [Item.wt, hch, hW2]
            have h1 := Int.mul_le_mul_of_nonneg_left hW (show 0 ≤ m by omega)
            have h2 : m * (16 * sp) = 16 * (m * sp) := Int.mul_left_comm ..
            have h3 : m * (sp + 2) = m * sp + m * 2 := Int.mul_add ..
            have h4 : ((1 + m.toNat * Item.wts its : Nat) : Int) = 1 + m * (Item.wts its : Int) := by
              rw [Int.natCast_add, Int.natCast_mul, Int.toNat_of_nonneg (by omega)]; rfl
            rw [h4, h3]; omega
          refine ⟨.lst x c its', _, vs, _, by rw [Item.d, Item.ds_map]; rfl, ⟨⟨hx, hc, ?_⟩, hW3⟩, hU', hu', rfl, tp⟩
          rcases hi with rfl | ⟨bb, b0, b1, rfl⟩
          · exact hL
          · refine lay_of (by simp; omega) fun i hi => ?_
            rcases List.mem_append.mp hi with hi | hi
            · exact hL.all i hi
            · rw [List.mem_singleton.mp hi]; exact ⟨by simp, by simp, fun z hz => by rw [List.mem_singleton.mp hz]; exact ⟨b0, b1⟩⟩
      have elast : atI ((us ++ [x]).map D.str) (-1) = some (.str x) := by rw [List.map_append]; exact atI_mapp _ _
      have rest : CSat (endF [true, true, false, false] (evB P (callF P wn k) wn ((F_law_rich_item I).body.drop 3) [.own t_r, .own (us.map .str), .val (.int d), .val (.int room), .val (.int r), .un, .un, .un, .un, .un, .un])) fun s ps =>
          ∃ (i : Item) (n : Int) (us' : List Str) (t' : List D), s = .val (.tup [i.d, .int n]) ∧ (i.ok (LayP d) ∧ (i.wt : Int) ≤ 16 * n) ∧ StrsOk us' ∧ us'.length ≤ us.length + 5 ∧ ps = [.own t', .own (us'.map .str), .un, .un] ∧ Tp t' := by
        have eb : (F_law_rich_item I).body.drop 3 = ((F_law_rich_item I).body.drop 3).take 3 ++ (F_law_rich_item I).body.drop 6 := rfl
        rw [eb]
        generalize (F_law_rich_item I).body.drop 6 = tl at tail
        unfold F_law_rich_item
        simp only [List.drop_succ_cons, List.drop_zero, List.take_succ_cons, List.take_zero, List.cons_append, List.nil_append]
        by_cases c9 : r = 9
        · obtain ⟨e, rfl⟩ : ∃ e, d = e + 1 := ⟨d - 1, by omega⟩
          have e1 : ((e + 1 : Nat) : Int) - 1 = e := by omega
          wp_walk using e0, str_snoc, e1
          obtain ⟨its, sp, t3, e2, ⟨hL, hW⟩, hl9, tp⟩ := again e rfl _ tp (room - 1)
          wp_walk using e2, elast
          exact ⟨.rcd x its, _, us ++ [x], _, by rw [Item.d, Item.ds_map]; rfl, ⟨⟨hx, hL⟩, by rw [Item.wt]; omega⟩, hU', hu', rfl, tp⟩
        · by_cases c8 : r = 8 ∧ room > 5
          · obtain ⟨c8, cr⟩ := c8
            obtain ⟨e, rfl⟩ : ∃ e, d = e + 1 := ⟨d - 1, by omega⟩
            have e1 : ((e + 1 : Nat) : Int) = (e : Int) + 1 := by omega
            wp_walk using e0, str_snoc, elast, e1
            obtain ⟨_, _, e2, i, n, t3, rfl, hi, rfl, tp⟩ := (H.choice (wn := wn) (kk := k) (IH e rfl) (by omega) tp hx room).get
            wp_walk using e2
            exact ⟨i, n, us ++ [x], _, rfl, hi, hU', hu', rfl, tp⟩
          · have tail := tail (by omega) c9
            by_cases c88 : r = 8
            · have : ¬ room > 5 := fun z => c8 ⟨c88, z⟩
              wp_walk using e0, str_snoc
              exact tail
            · wp_walk using e0, str_snoc
              exact tail
      generalize (F_law_rich_item I).body.drop 3 = tl at rest
      unfold F_law_rich_item
      simp only [List.take_succ_cons, List.take_zero, List.cons_append, List.nil_append]
      by_cases c55 : r = 5
      · wp_walk using e_r
        exact rest
      · have : r > 5 := by omega
        have := hd this
        wp_walk using e_r
        exact rest
theorem Rich.step (H : Rich P I) {d : Nat} (IH : ∀ e, d = e + 1 → RichC P I wn e) : RichC P I wn d := by
  intro kk hk t tp room
  obtain ⟨k, rfl⟩ : ∃ k, kk = k + 1 := ⟨kk - 1, by omega⟩
  rw [callF_succ P wn k H.law_rich _ rfl]
  unfold F_law_rich
  simp only [List.length_cons, List.length_nil, List.reduceReplicate, Nat.reduceSub, Nat.reduceAdd, List.cons_append, List.nil_append]
  have main : ∀ (n : Int) (t : List D), Tp t → 0 ≤ n → n ≤ 9 → CSat (endF [true, false, false] (qX (evB P (callF P wn k) wn [.ret (.tup [.var 3, .var 4])]) (onFr (unlk []) (forL (asgT (.v 6)) (evB P (callF P wn k) wn [
    .asg 7 (.call I.law_rich_item [.var 0, .var 5, .var 1, .bin .sub (.var 2) (.var 4)]),
    .ite (.cmp .le (.bin .add (.var 4) (.ix (.var 7) (.int 1))) (.var 2)) [
      .asg 3 (.bin .add (.var 3) (.tup [.ix (.var 7) (.int 0)])),
      .asg 4 (.bin .add (.var 4) (.ix (.var 7) (.int 1)))] []]) (upto 0 n.toNat) [.own t, .val (.int d), .val (.int room), .val (.tup []), .val (.int 0), .own [], .un, .un])))) fun s ps =>
        ∃ (its : List Item) (sp : Int) (t' : List D), s = .val (.tup [lay its, .int sp]) ∧ Lay d its ∧ (its.length ≤ 9 ∧ (Item.wts its : Int) ≤ 16 * sp ∧ (sp = 0 ∨ sp ≤ room)) ∧ ps = [.own t', .un, .un] ∧ Tp t' := by
    intro n t tp n0 n1
    refine for_t (G := fun z => CSat (endF _ (qX _ (onFr _ z))) _) (fun j fr => ∃ (t' : List D) (its : List Item) (us : List Str) (sp : Int) (y6 y7 : Slot), Tp t' ∧ its.length ≤ j ∧ ((∀ i ∈ its, i.ok (LayP d)) ∧ (Item.wts its : Int) ≤ 16 * sp ∧ (sp = 0 ∨ sp ≤ room)) ∧ StrsOk us ∧ us.length ≤ 6 * j ∧
      fr = [.own t', .val (.int d), .val (.int room), .val (lay its), .val (.int sp), .own (us.map .str), y6, y7]) ⟨t, [], [], 0, .un, .un, tp, by simp, ⟨(fun i h => by cases h), by rw [Item.wts]; omega, .inl rfl⟩, (fun x h => by cases h), by simp, rfl⟩ ?_ ?_
    · rintro j x fr hj ⟨t', its, us, sp, y6, y7, tp, hl, ⟨hi, hW, hS⟩, hU, hu, rfl⟩
      have hj2 := (upto_at hj).1
      wp_walk
      obtain ⟨_, _, e0, i, n2, us', t2, rfl, ⟨hok, hiw⟩, hU', hu', rfl, tp⟩ := (H.item (wn := wn) (kk := k) (d := d) IH (by omega) tp (us := us) (by omega) hU (room - sp)).get
      wp_walk using e0
      have hnew : ∀ x ∈ its ++ [i], x.ok (LayP d) := fun x hx => by
        rcases List.mem_append.mp hx with h | h
        · exact hi x h
        · rw [List.mem_singleton.mp h]; exact hok
      by_cases c : sp + n2 ≤ room
      · wp_walk using lay
        exact ⟨t2, its ++ [i], us', sp + n2, _, _, tp, by simp; omega, ⟨hnew, by rw [Item.wts_snoc]; omega, .inr c⟩, hU', by omega, by rw [List.map_append]; rfl⟩
      · wp_walk
        exact ⟨t2, its, us', sp, _, _, tp, by omega, ⟨hi, hW, hS⟩, hU', by omega, rfl⟩
    · rintro fr ⟨t', its, us, sp, y6, y7, tp, hl, ⟨hi, hW, hS⟩, hU, hu, rfl⟩
      rw [upto_len] at hl
      wp_walk using lay
      exact ⟨its, sp, t', rfl, lay_of (by omega) hi, ⟨by omega, hW, hS⟩, rfl, tp⟩
  by_cases c : room > 0
  · by_cases c2 : (d : Int) > 2
    · wp_walk
      obtain ⟨r, t_r, e_r, tp, r0, r1, r2⟩ := H.draw (wn := wn) (kk := k) (by omega) tp (7) (by omega)
      replace r1 := r1 (by omega)
      wp_walk using e_r
      obtain ⟨m, m0, m1, e_m⟩ := imenu [2, 1, 2, 3, 4, 0, 9] r (0) (9) (by intro x hx; simp only [List.mem_cons, List.not_mem_nil, or_false] at hx; omega) (by omega) (by simp only [List.length_cons, List.length_nil]; omega)
      simp only [List.map_cons, List.map_nil] at e_m
      wp_walk using e_m
      exact main m _ tp m0 m1
    · wp_walk
      obtain ⟨r, t_r, e_r, tp, r0, r1, r2⟩ := H.draw (wn := wn) (kk := k) (by omega) tp (7) (by omega)
      replace r1 := r1 (by omega)
      wp_walk using e_r
      obtain ⟨m, m0, m1, e_m⟩ := imenu [2, 1, 2, 3, 4, 0, 3] r (0) (9) (by intro x hx; simp only [List.mem_cons, List.not_mem_nil, or_false] at hx; omega) (by omega) (by simp only [List.length_cons, List.length_nil]; omega)
      simp only [List.map_cons, List.map_nil] at e_m
      wp_walk using e_m
      exact main m _ tp m0 m1
  · wp_walk
    exact main 0 _ tp (by omega) (by omega)
/-- RICH LAYOUTS -/
theorem Rich.rich (H : Rich P I) : ∀ d : Nat, RichC P I wn d
  | 0 => H.step fun e h => by cases h
  | d + 1 => H.step fun e h => by cases h; exact H.rich d
end
end MP

/-! MP: the laws' comparison, their scopes. -/
namespace MP
open PySem L2
/- law_same: 0 told 1 due 2 k -/
def F_law_same (I : Ix) : Fn := ⟨3, [false, false], [
  .ite (.or (.isi .tuple (.var 1)) (.isi .list (.var 1))) [
    .ite (.and (.isi .tuple (.var 1)) (.not (.isi .tuple (.var 0)))) [
      .ret (.bl false)] [],
    .ite (.and (.isi .list (.var 1)) (.not (.isi .list (.var 0)))) [
      .ret (.bl false)] [],
    .ite (.cmp .ne (.bi .len [.var 0]) (.bi .len [.var 1])) [
      .ret (.bl false)] [],
    .for_ (.v 2) (.rng [.bi .len [.var 1]]) [
      .ite (.not (.call I.law_same [.ix (.var 0) (.var 2), .ix (.var 1) (.var 2)])) [
        .ret (.bl false)] []],
    .ret (.bl true)] [],
  .ite (.cmp .is (.var 1) .non) [
    .ret (.cmp .is (.var 0) .non)] [],
  .ite (.isi .bool (.var 1)) [
    .ret (.and (.isi .bool (.var 0)) (.cmp .eq (.var 0) (.var 1)))] [],
  .ite (.isi .str (.var 1)) [
    .ret (.and (.isi .str (.var 0)) (.cmp .eq (.var 0) (.var 1)))] [],
  .ret (.and (.isi .int (.var 0)) (.and (.not (.isi .bool (.var 0))) (.cmp .eq (.var 0) (.var 1))))]⟩
structure Same (P : Prg) (I : Ix) : Prop where
  law_same : P.fns[I.law_same]? = some (F_law_same I)
theorem Same.io_law_same {P : Prg} {I : Ix} (H : Same P I) : P.io I.law_same = [false, false] := io_of H.law_same
/- law_scopes: 0 items 1 found 2 item 3 case -/
def F_law_scopes (I : Ix) : Fn := ⟨4, [false], [
  .asg 1 (.lst [.var 0]),
  .for_ (.v 2) (.var 0) [
    .ite (.cmp .eq (.ix (.var 2) (.int 0)) (.str "list")) [
      .asg 1 (.bin .add (.var 1) (.call I.law_scopes [.ix (.var 2) (.int 3)]))] [
      .ite (.cmp .eq (.ix (.var 2) (.int 0)) (.str "record")) [
        .asg 1 (.bin .add (.var 1) (.call I.law_scopes [.ix (.var 2) (.int 2)]))] [
        .ite (.cmp .eq (.ix (.var 2) (.int 0)) (.str "choice")) [
          .for_ (.v 3) (.ix (.var 2) (.int 3)) [
            .asg 1 (.bin .add (.var 1) (.call I.law_scopes [.ix (.var 3) (.int 2)]))]] []]]],
  .ret (.var 1)]⟩
structure Scp (P : Prg) (I : Ix) : Prop where
  law_scopes : P.fns[I.law_scopes]? = some (F_law_scopes I)
theorem Scp.io_law_scopes {P : Prg} {I : Ix} (H : Scp P I) : P.io I.law_scopes = [false] := io_of H.law_scopes
local macro_rules | `(tactic| wp_walk) => `(tactic| simp -implicitDefEqProofs (disch := first | assumption | omega | (simp only [List.length_cons, List.length_nil, List.length_map, List.length_append]; omega)) only [MP.bnd_ap, MP.bX_ok, MP.thenS_ap, MP.tX_ok, MP.seqS_nx, MP.seqS_rt, MP.seqS_bk, MP.seqS_ct, MP.ret_ap, MP.opt_some, MP.when_true, MP.evB_nil, MP.evB_cons, MP.evS_asg, MP.evS_asgT, MP.evS_aug, MP.evS_setix, MP.evS_par, MP.sets_nil, MP.sets_cons, MP.evS_ex, MP.evS_ite, MP.evS_for, MP.evS_whl, MP.evS_ret, MP.evS_retN, MP.evS_brk, MP.evS_cont, MP.evS_pass, MP.selS_true, MP.selS_false, MP.selM_true, MP.selM_false, MP.slK_ap, MP.itK_ap, MP.tru_ap, MP.fz_ap, MP.var_v, MP.var_t, MP.var_o, MP.var_i, MP.int_v, MP.int_o, MP.str_v, MP.str_o, MP.bl_v, MP.bl_o, MP.bl_t, MP.non_v, MP.non_o, MP.glo_v, MP.glo_o, MP.glo_i, MP.tup_v, MP.tup_o, MP.tup_i, MP.lst_v, MP.lst_o, MP.lst_i, MP.bin_v, MP.bin_o, MP.bin_t, MP.bin_i, MP.negK_int, MP.neg_v, MP.neg_o, MP.not_v, MP.not_t, MP.not_o, MP.isB_bl, MP.and_v, MP.and_t, MP.and_o, MP.or_v, MP.or_t, MP.or_o, MP.cmp_t, MP.cmp_v, MP.cmp_o, MP.cmp2_t, MP.cmp2_v, MP.cmp2_o, MP.ite_v, MP.ite_o, MP.ite_i, MP.kix_v, MP.kix_o, MP.ix_v, MP.ix_o, MP.ix_t, MP.ix_i, MP.sl_v, MP.sl_o, MP.sl_i, MP.rev_v, MP.rev_o, MP.rev_i, MP.revK_t, MP.revK_l, MP.call_v, MP.call_o, MP.call_t, MP.call_i, MP.bi_v, MP.bi_o, MP.bi_t, MP.bi_i, MP.isi_v, MP.isi_o, MP.isi_t, MP.app_v, MP.ext_v, MP.pop_v, MP.pop_o, MP.revm_v, MP.rng_i, MP.dic_v, MP.dic_o, MP.lrng_v, MP.lrng_o, MP.lrng_i, MP.enu_i, MP.lc_v, MP.lc_o, MP.lc_i, MP.evs_nil, MP.evs_cons, MP.vals_nil, MP.vals_cons, MP.opds_nil, MP.opds_cons, MP.rdOs_nil, MP.rdOs_cons, MP.args_nil, MP.args_t, MP.args_f, MP.rdO_at, MP.rdO_sl, MP.d_val, MP.d_own, MP.d_lk, MP.opAt_ap, MP.opAtS_val, MP.opAtS_own, MP.opAtS_lk, MP.cap_ap, MP.capS_some, MP.retV_var, MP.retS_own, MP.retS_val, MP.ownAt_ap, MP.ownS_own, MP.chg_ap, MP.chgS_own, MP.chgO_some, MP.setAt_int, MP.itO_at', MP.itS_own, MP.itS_val, MP.itO_sl', MP.part_nil, MP.part_cons, MP.partK_int, MP.extK_lst, MP.callM_ap, MP.endC_ok, MP.takes_nil, MP.takes_at, MP.takes_sl, MP.backs_at, MP.backs_sl, MP.backs_nil, MP.lent_t, MP.lent_f, MP.lent_n, MP.endF_rt, MP.endF_nx, MP.onFr_nx, MP.onFr_rt, MP.unlk_nil, MP.retV_int, MP.retV_str, MP.retV_bl, MP.retV_non, MP.retV_glo, MP.retV_tup, MP.retV_lst, MP.retV_dic, MP.retV_bin, MP.retV_neg, MP.retV_not, MP.retV_and, MP.retV_or, MP.retV_cmp, MP.retV_cmp2, MP.retV_ite, MP.retV_kix, MP.retV_ix, MP.retV_sl, MP.retV_rev, MP.retV_call, MP.retV_bi, MP.retV_isi, MP.retV_mt, MP.retV_pop, MP.retV_lrng, MP.retV_lc, MP.retV_fs, MP.sl0, MP.sl1, MP.sl2, MP.sl3, MP.sl4, MP.sl5, MP.sl6, MP.sl7, MP.sl8, MP.sl9, MP.sl10, MP.sl11, MP.set0, MP.set1, MP.set2, MP.set3, MP.set4, MP.set5, MP.set6, MP.set7, MP.set8, MP.set9, MP.set10, MP.set11, MP.add_i, MP.sub_i, MP.pow_i, MP.and_i, MP.or_i, MP.xor_i, MP.eq_i, MP.ne_i, MP.lt_i, MP.le_i, MP.gt_i, MP.ge_i, MP.eq_s, MP.ne_s, MP.ix_l, MP.ix_t', MP.len_l, MP.len_t, MP.abs_i, MP.int_i, MP.max_i, MP.min_i, MP.list_l, MP.list_t, MP.list_s, MP.tuple_l, MP.omap_some, MP.obind_some, decide_true, decide_false, MP.tr_bl, MP.isi_ii, MP.isi_ib, MP.turnO_ap, MP.asgT_v, MP.asgT_tup, MP.asgTs_nil, MP.asgTs_cons, MP.forK_ap, MP.lcM_ap, MP.lcStep_ap, MP.wipeF_nil, MP.wipeF_cons, MP.putF_nil, MP.putF_cons, MP.ifsM_nil, MP.ifsM_cons, MP.seqI_l, MP.seqI_t, MP.seqI_s, MP.sEq, MP.atI_0, MP.atI_1, MP.atI_2, MP.atI_3, MP.atI_4, MP.atI_5, MP.atI_6, MP.atI_mapp, MP.atI_m1, MP.sz_if, MP.dlt_t, MP.dlt_f, MP.dle_t, MP.dle_f, MP.beq_t, MP.beq_f, MP.bne_t, MP.bne_f, MP.mul_okr, MP.mul_okl, MP.fdiv_ok, MP.mod_ok, MP.shl1_ok, MP.shl_ok, MP.shr_ok, MP.add_t, MP.add_lo, MP.add_so, MP.app_ok, MP.ext_ok, MP.rng1_ok, MP.rng2_ok, MP.eq_n, MP.ne_n, MP.isN_n, MP.isN_i, MP.isN_s, MP.isN_t, MP.isN_l, MP.isN_b, MP.tr_t, MP.tr_l, MP.tr_i, MP.kix_s, MP.look_c, MP.look_n, MP.ixd, MP.key_i, MP.key_s, MP.dl_c, MP.sum_ii, MP.sum_ss, MP.isi_tt, MP.isi_tl, MP.isi_ts, MP.isi_tb, MP.isi_ti, MP.isi_ll, MP.isi_lt, MP.isi_ss, MP.isi_st, MP.isi_sl, MP.isi_sb, MP.isi_si, MP.isi_is, MP.isi_it, MP.isi_il, MP.isi_bb, MP.isi_bi, MP.isi_bt, MP.isi_blx, MP.isi_nt, MP.isi_nl, MP.isi_nb, MP.isi_ni, MP.isi_ns, MP.eq_b, MP.sl12, MP.sl13, MP.sl14, MP.set12, MP.set13, MP.set14, MP.lc_t, MP.part_mn, MP.part_mc, MP.enuOk_l, MP.enuOk_t, MP.zip_i, MP.zipV_ll, MP.zipV_lt, MP.zipV_tl, MP.zipV_tt, MP.fs_v, MP.fs_o, MP.fsM_n, MP.fsM_c, MP.strOf_s, MP.sl_t, MP.sl_l, MP.mt_v, MP.mt_o, MP.mt_t, MP.mt_i, MP.ty_split, MP.ty_endswith, MP.ty_startswith, MP.ty_join, MP.ty_index, MP.ty_get, MP.csat_ok, MP.tsat_nx, MP.tsat_ct, MP.unlk_c, ↓reduceIte, String.reduceEq, Int.reduceEq, Int.reduceLT, Int.reduceLE, Int.reduceAdd, Int.reduceSub, Int.reduceMul, Int.reduceNeg, Int.reduceToNat, Nat.reduceAdd, Nat.reduceSub, List.length_cons, List.length_nil, Int.one_mul, Bool.not_true, Bool.not_false, Bool.and_true, Bool.true_and, Bool.and_false, Bool.false_and, Bool.or_true, Bool.true_or, Bool.or_false, Bool.false_or, List.isEmpty_cons, List.isEmpty_nil, List.cons_append, List.nil_append, List.append_nil, MP.Same.io_law_same, MP.Scp.io_law_scopes])
local macro_rules | `(tactic| wp_walk using $ts:term,*) => `(tactic| simp -implicitDefEqProofs (disch := first | assumption | omega | (simp only [List.length_cons, List.length_nil, List.length_map, List.length_append]; omega)) only [MP.bnd_ap, MP.bX_ok, MP.thenS_ap, MP.tX_ok, MP.seqS_nx, MP.seqS_rt, MP.seqS_bk, MP.seqS_ct, MP.ret_ap, MP.opt_some, MP.when_true, MP.evB_nil, MP.evB_cons, MP.evS_asg, MP.evS_asgT, MP.evS_aug, MP.evS_setix, MP.evS_par, MP.sets_nil, MP.sets_cons, MP.evS_ex, MP.evS_ite, MP.evS_for, MP.evS_whl, MP.evS_ret, MP.evS_retN, MP.evS_brk, MP.evS_cont, MP.evS_pass, MP.selS_true, MP.selS_false, MP.selM_true, MP.selM_false, MP.slK_ap, MP.itK_ap, MP.tru_ap, MP.fz_ap, MP.var_v, MP.var_t, MP.var_o, MP.var_i, MP.int_v, MP.int_o, MP.str_v, MP.str_o, MP.bl_v, MP.bl_o, MP.bl_t, MP.non_v, MP.non_o, MP.glo_v, MP.glo_o, MP.glo_i, MP.tup_v, MP.tup_o, MP.tup_i, MP.lst_v, MP.lst_o, MP.lst_i, MP.bin_v, MP.bin_o, MP.bin_t, MP.bin_i, MP.negK_int, MP.neg_v, MP.neg_o, MP.not_v, MP.not_t, MP.not_o, MP.isB_bl, MP.and_v, MP.and_t, MP.and_o, MP.or_v, MP.or_t, MP.or_o, MP.cmp_t, MP.cmp_v, MP.cmp_o, MP.cmp2_t, MP.cmp2_v, MP.cmp2_o, MP.ite_v, MP.ite_o, MP.ite_i, MP.kix_v, MP.kix_o, MP.ix_v, MP.ix_o, MP.ix_t, MP.ix_i, MP.sl_v, MP.sl_o, MP.sl_i, MP.rev_v, MP.rev_o, MP.rev_i, MP.revK_t, MP.revK_l, MP.call_v, MP.call_o, MP.call_t, MP.call_i, MP.bi_v, MP.bi_o, MP.bi_t, MP.bi_i, MP.isi_v, MP.isi_o, MP.isi_t, MP.app_v, MP.ext_v, MP.pop_v, MP.pop_o, MP.revm_v, MP.rng_i, MP.dic_v, MP.dic_o, MP.lrng_v, MP.lrng_o, MP.lrng_i, MP.enu_i, MP.lc_v, MP.lc_o, MP.lc_i, MP.evs_nil, MP.evs_cons, MP.vals_nil, MP.vals_cons, MP.opds_nil, MP.opds_cons, MP.rdOs_nil, MP.rdOs_cons, MP.args_nil, MP.args_t, MP.args_f, MP.rdO_at, MP.rdO_sl, MP.d_val, MP.d_own, MP.d_lk, MP.opAt_ap, MP.opAtS_val, MP.opAtS_own, MP.opAtS_lk, MP.cap_ap, MP.capS_some, MP.retV_var, MP.retS_own, MP.retS_val, MP.ownAt_ap, MP.ownS_own, MP.chg_ap, MP.chgS_own, MP.chgO_some, MP.setAt_int, MP.itO_at', MP.itS_own, MP.itS_val, MP.itO_sl', MP.part_nil, MP.part_cons, MP.partK_int, MP.extK_lst, MP.callM_ap, MP.endC_ok, MP.takes_nil, MP.takes_at, MP.takes_sl, MP.backs_at, MP.backs_sl, MP.backs_nil, MP.lent_t, MP.lent_f, MP.lent_n, MP.endF_rt, MP.endF_nx, MP.onFr_nx, MP.onFr_rt, MP.unlk_nil, MP.retV_int, MP.retV_str, MP.retV_bl, MP.retV_non, MP.retV_glo, MP.retV_tup, MP.retV_lst, MP.retV_dic, MP.retV_bin, MP.retV_neg, MP.retV_not, MP.retV_and, MP.retV_or, MP.retV_cmp, MP.retV_cmp2, MP.retV_ite, MP.retV_kix, MP.retV_ix, MP.retV_sl, MP.retV_rev, MP.retV_call, MP.retV_bi, MP.retV_isi, MP.retV_mt, MP.retV_pop, MP.retV_lrng, MP.retV_lc, MP.retV_fs, MP.sl0, MP.sl1, MP.sl2, MP.sl3, MP.sl4, MP.sl5, MP.sl6, MP.sl7, MP.sl8, MP.sl9, MP.sl10, MP.sl11, MP.set0, MP.set1, MP.set2, MP.set3, MP.set4, MP.set5, MP.set6, MP.set7, MP.set8, MP.set9, MP.set10, MP.set11, MP.add_i, MP.sub_i, MP.pow_i, MP.and_i, MP.or_i, MP.xor_i, MP.eq_i, MP.ne_i, MP.lt_i, MP.le_i, MP.gt_i, MP.ge_i, MP.eq_s, MP.ne_s, MP.ix_l, MP.ix_t', MP.len_l, MP.len_t, MP.abs_i, MP.int_i, MP.max_i, MP.min_i, MP.list_l, MP.list_t, MP.list_s, MP.tuple_l, MP.omap_some, MP.obind_some, decide_true, decide_false, MP.tr_bl, MP.isi_ii, MP.isi_ib, MP.turnO_ap, MP.asgT_v, MP.asgT_tup, MP.asgTs_nil, MP.asgTs_cons, MP.forK_ap, MP.lcM_ap, MP.lcStep_ap, MP.wipeF_nil, MP.wipeF_cons, MP.putF_nil, MP.putF_cons, MP.ifsM_nil, MP.ifsM_cons, MP.seqI_l, MP.seqI_t, MP.seqI_s, MP.sEq, MP.atI_0, MP.atI_1, MP.atI_2, MP.atI_3, MP.atI_4, MP.atI_5, MP.atI_6, MP.atI_mapp, MP.atI_m1, MP.sz_if, MP.dlt_t, MP.dlt_f, MP.dle_t, MP.dle_f, MP.beq_t, MP.beq_f, MP.bne_t, MP.bne_f, MP.mul_okr, MP.mul_okl, MP.fdiv_ok, MP.mod_ok, MP.shl1_ok, MP.shl_ok, MP.shr_ok, MP.add_t, MP.add_lo, MP.add_so, MP.app_ok, MP.ext_ok, MP.rng1_ok, MP.rng2_ok, MP.eq_n, MP.ne_n, MP.isN_n, MP.isN_i, MP.isN_s, MP.isN_t, MP.isN_l, MP.isN_b, MP.tr_t, MP.tr_l, MP.tr_i, MP.kix_s, MP.look_c, MP.look_n, MP.ixd, MP.key_i, MP.key_s, MP.dl_c, MP.sum_ii, MP.sum_ss, MP.isi_tt, MP.isi_tl, MP.isi_ts, MP.isi_tb, MP.isi_ti, MP.isi_ll, MP.isi_lt, MP.isi_ss, MP.isi_st, MP.isi_sl, MP.isi_sb, MP.isi_si, MP.isi_is, MP.isi_it, MP.isi_il, MP.isi_bb, MP.isi_bi, MP.isi_bt, MP.isi_blx, MP.isi_nt, MP.isi_nl, MP.isi_nb, MP.isi_ni, MP.isi_ns, MP.eq_b, MP.sl12, MP.sl13, MP.sl14, MP.set12, MP.set13, MP.set14, MP.lc_t, MP.part_mn, MP.part_mc, MP.enuOk_l, MP.enuOk_t, MP.zip_i, MP.zipV_ll, MP.zipV_lt, MP.zipV_tl, MP.zipV_tt, MP.fs_v, MP.fs_o, MP.fsM_n, MP.fsM_c, MP.strOf_s, MP.sl_t, MP.sl_l, MP.mt_v, MP.mt_o, MP.mt_t, MP.mt_i, MP.ty_split, MP.ty_endswith, MP.ty_startswith, MP.ty_join, MP.ty_index, MP.ty_get, MP.csat_ok, MP.tsat_nx, MP.tsat_ct, MP.unlk_c, ↓reduceIte, String.reduceEq, Int.reduceEq, Int.reduceLT, Int.reduceLE, Int.reduceAdd, Int.reduceSub, Int.reduceMul, Int.reduceNeg, Int.reduceToNat, Nat.reduceAdd, Nat.reduceSub, List.length_cons, List.length_nil, Int.one_mul, Bool.not_true, Bool.not_false, Bool.and_true, Bool.true_and, Bool.and_false, Bool.false_and, Bool.or_true, Bool.true_or, Bool.or_false, Bool.false_or, List.isEmpty_cons, List.isEmpty_nil, List.cons_append, List.nil_append, List.append_nil, MP.Same.io_law_same, MP.Scp.io_law_scopes, $[$ts:term],*])
/-- data that the comparison walks, by its height -/
def Pl : Nat → D → Prop
  | _, .non => True
  | _, .bl _ => True
  | _, .int _ => True
  | _, .str _ => True
  | n + 1, .tup xs => xs.length ≤ 100000 ∧ ∀ x ∈ xs, Pl n x
  | n + 1, .lst xs => xs.length ≤ 100000 ∧ ∀ x ∈ xs, Pl n x
  | _, _ => False
theorem atI_nat {α : Type} {xs : List α} {j : Nat} (h : j < xs.length) : atI xs (0 + (j : Int)) = some xs[j] := by
  rw [atI_ok (by omega) (by omega)]
  have e : (0 + (j : Int)).toNat = j := by omega
  rw [e, List.getElem?_eq_getElem h]
section
variable {P : Prg} {I : Ix} {wn kk : Nat}
theorem Same.same (H : Same P I) : ∀ (n : Nat) (kk : Nat) (d : D), n < kk → Pl n d → callF P wn kk I.law_same [.val d, .val d] = .ok (.val (.bl true)) [.un, .un] := by
  intro n
  induction n with
  | zero =>
    intro kk d hk hp
    obtain ⟨k, rfl⟩ : ∃ k, kk = k + 1 := ⟨kk - 1, by omega⟩
    rw [callF_succ P wn k H.law_same _ rfl]
    unfold F_law_same
    simp only [List.length_cons, List.length_nil, List.reduceReplicate, Nat.reduceSub, Nat.reduceAdd, List.cons_append, List.nil_append]
    cases d with
    | non => wp_walk
    | bl b => wp_walk using beq_self_eq_true
    | int i => wp_walk
    | str x => wp_walk
    | tup xs => exact hp.elim
    | lst xs => exact hp.elim
    | dic _ _ => exact hp.elim
    | scr _ => exact hp.elim
  | succ n ih =>
    intro kk d hk hp
    suffices h : CSat (callF P wn kk I.law_same [.val d, .val d]) fun s ps => s = .val (.bl true) ∧ ps = [.un, .un] by
      obtain ⟨s, ps, e, rfl, rfl⟩ := h.get; exact e
    obtain ⟨k, rfl⟩ : ∃ k, kk = k + 1 := ⟨kk - 1, by omega⟩
    rw [callF_succ P wn k H.law_same _ rfl]
    unfold F_law_same
    simp only [List.length_cons, List.length_nil, List.reduceReplicate, Nat.reduceSub, Nat.reduceAdd, List.cons_append, List.nil_append]
    have many : ∀ (K : Fr → SOut) (xs : List D) (d : D), (∀ j (h : j < xs.length), index d (.int (0 + (j : Int))) = some (.val xs[j])) → (∀ x ∈ xs, Pl n x) → xs.length ≤ 100000 → CSat (endF [false, false] (qX K (qX (evB P (callF P wn k) wn [.ret (.bl true)]) (onFr (unlk []) (forL (asgT (.v 2)) (evB P (callF P wn k) wn [
      .ite (.not (.call I.law_same [.ix (.var 0) (.var 2), .ix (.var 1) (.var 2)])) [
        .ret (.bl false)] []]) (upto 0 xs.length) [.val d, .val d, .un]))))) fun s ps => s = .val (.bl true) ∧ ps = [.un, .un] := by
      intro K xs d hx hp hl
      refine for_t (G := fun z => CSat (endF _ (qX _ (qX _ (onFr _ z)))) _) (fun j fr => ∃ y : Slot, fr = [.val d, .val d, y]) ⟨_, rfl⟩ ?_ ?_
      · rintro j z fr hj ⟨y, rfl⟩
        obtain ⟨hj2, rfl⟩ := upto_at hj
        have e := hx j hj2
        have e2 := ih k xs[j] (by omega) (hp _ (List.getElem_mem hj2))
        wp_walk using e, e2
        exact ⟨_, rfl⟩
      · rintro fr ⟨y, rfl⟩
        wp_walk
        trivial
    cases d with
    | non => wp_walk; trivial
    | bl b => wp_walk using beq_self_eq_true; trivial
    | int i => wp_walk; trivial
    | str x => wp_walk; trivial
    | tup xs =>
      have e : ((xs.length : Int)).toNat = xs.length := by omega
      have hl := hp.1
      wp_walk using e
      refine many _ xs _ (fun j h => ?_) hp.2 hp.1
      rw [ix_t', atI_nat h]; rfl
    | lst xs =>
      have e : ((xs.length : Int)).toNat = xs.length := by omega
      have hl := hp.1
      wp_walk using e
      refine many _ xs _ (fun j h => ?_) hp.2 hp.1
      rw [ix_l, atI_nat h]; rfl
    | dic _ _ => exact hp.elim
    | scr _ => exact hp.elim
def SB : Nat → Nat
  | 0 => 1
  | n + 1 => 1 + 90 * SB n
def ScpC (P : Prg) (I : Ix) (wn n : Nat) : Prop := ∀ (kk : Nat) (its : List Item), n < kk → Lay n its →
    ∃ ss : List (List Item), callF P wn kk I.law_scopes [.val (lay its)] = .ok (.own (ss.map lay)) [.un] ∧ (∀ s ∈ ss, Lay n s) ∧ ss.length ≤ SB n
theorem Scp.step (H : Scp P I) {n : Nat} (hB : SB n ≤ 1000000) (IH : ∀ e, n = e + 1 → ScpC P I wn e) : ScpC P I wn n := by
  intro kk its hk hL
  suffices h : CSat (callF P wn kk I.law_scopes [.val (lay its)]) fun s ps => ∃ ss : List (List Item), s = .own (ss.map lay) ∧ ps = [.un] ∧ (∀ s ∈ ss, Lay n s) ∧ ss.length ≤ SB n by
    obtain ⟨s, ps, e, ss, rfl, rfl, h⟩ := h.get; exact ⟨ss, e, h⟩
  obtain ⟨k, rfl⟩ : ∃ k, kk = k + 1 := ⟨kk - 1, by omega⟩
  rw [callF_succ P wn k H.law_scopes _ rfl]
  unfold F_law_scopes
  simp only [List.length_cons, List.length_nil, List.reduceReplicate, Nat.reduceSub, Nat.reduceAdd, List.cons_append, List.nil_append]
  let C : Nat := match n with
    | 0 => 0
    | e + 1 => 9 * SB e
  have hC : 1 + 10 * C ≤ SB n := by
    cases n with
    | zero => exact Nat.le_refl _
    | succ e => show 1 + 10 * (9 * SB e) ≤ 1 + 90 * SB e; omega
  have inner : ∀ its', LayP n its' → ∃ ss : List (List Item), callF P wn k I.law_scopes [.val (lay its')] = .ok (.own (ss.map lay)) [.un] ∧ (∀ s ∈ ss, Lay n s) ∧ 9 * ss.length ≤ C := fun its' h => by
    cases n with
    | zero => exact h.elim
    | succ e =>
      obtain ⟨ss, h1, h2, h3⟩ := IH e rfl k its' (by omega) h
      exact ⟨ss, h1, fun s hs => (h2 s hs).up, by show 9 * ss.length ≤ 9 * SB e; omega⟩
  have e1 : ∀ its' : List Item, D.tup (Item.ds its') = lay its' := fun its' => by rw [Item.ds_map]; rfl
  have e2 : ∀ its' : List Item, D.tup (its'.map Item.d) = lay its' := fun _ => rfl
  generalize C = C at *
  have cat : ∀ ss ss' : List (List Item), ss.map lay ++ ss'.map lay = (ss ++ ss').map lay := fun ss ss' => by simp
  have hS : seqI (lay its) = some (its.map Item.d) := rfl
  wp_walk using hS
  refine for_t (G := fun z => CSat (endF _ (qX _ (onFr _ z))) _) (fun j fr => ∃ (ss : List (List Item)) (y2 y3 : Slot), (∀ s ∈ ss, Lay n s) ∧ ss.length ≤ 1 + j * C ∧ fr = [.val (lay its), .own (ss.map lay), y2, y3]) ⟨[its], .un, .un, fun s hs => by rw [List.mem_singleton.mp hs]; exact hL, by simp, rfl⟩ ?_ ?_
  · rintro j d fr hj ⟨ss, y2, y3, hs, hl, rfl⟩
    obtain ⟨i, hi, rfl⟩ := map_ix hj
    have hj2 : j < its.length := (List.getElem?_eq_some_iff.mp hi).1
    have hlen := hL.len
    have hok := hL.all i (List.mem_of_getElem? hi)
    have m1 : (j + 1) * C = j * C + C := Nat.succ_mul j C
    have m2 : (j + 1) * C ≤ 10 * C := Nat.mul_le_mul_right C (by omega)
    have one : ∀ its', LayP n its' → ∃ ss' : List (List Item), callF P wn k I.law_scopes [.val (lay its')] = .ok (.own (ss'.map lay)) [.un] ∧ (∀ s ∈ ss ++ ss', Lay n s) ∧ (ss ++ ss').length ≤ 1 + (j + 1) * C := fun its' h => by
      obtain ⟨ss', h1, h2, h3⟩ := inner its' h
      exact ⟨ss', h1, fun s hs' => (List.mem_append.mp hs').elim (hs s) (h2 s), by rw [List.length_append]; omega⟩
    cases i with
    | word w ps => wp_walk using Item.d; exact ⟨ss, _, _, hs, by omega, rfl⟩
    | lit bs => wp_walk using Item.d; exact ⟨ss, _, _, hs, by omega, rfl⟩
    | res m => wp_walk using Item.d; exact ⟨ss, _, _, hs, by omega, rfl⟩
    | chk x => wp_walk using Item.d; exact ⟨ss, _, _, hs, by omega, rfl⟩
    | arr nm w sg c rs df => wp_walk using Item.d; exact ⟨ss, _, _, hs, by omega, rfl⟩
    | lst nm c its' =>
      obtain ⟨ss', h1, h2, h3⟩ := one its' hok.2.2
      have h4 : (ss.map lay).length + (ss'.map lay).length ≤ 1000000 := by rw [List.length_append] at h3; rw [List.length_map, List.length_map]; omega
      wp_walk using Item.d, e1, h1
      exact ⟨ss ++ ss', _, _, h2, h3, by rw [cat]⟩
    | rcd nm its' =>
      obtain ⟨ss', h1, h2, h3⟩ := one its' hok.2
      have h4 : (ss.map lay).length + (ss'.map lay).length ≤ 1000000 := by rw [List.length_append] at h3; rw [List.length_map, List.length_map]; omega
      wp_walk using Item.d, e1, h1
      exact ⟨ss ++ ss', _, _, h2, h3, by rw [cat]⟩
    | cho nm w cs =>
      have hcs := hok.2.2
      have hS : seqI (D.tup (Case.ds cs)) = some (cs.map Case.d) := by rw [Case.ds_map]; rfl
      wp_walk using Item.d, hS
      refine for_t (G := fun z => TSat (qX _ (qX _ (qX _ (qX _ (onFr _ z))))) _) (fun j2 fr => ∃ (ts : List (List Item)) (y3 : Slot), (∀ s ∈ ts, Lay n s) ∧ 9 * ts.length ≤ 9 * (1 + j * C) + j2 * C ∧ fr = [.val (lay its), .own (ts.map lay), .val (.tup [.str (Str.ofString "choice"), .str nm, .str w.str, .tup (Case.ds cs)]), y3]) ⟨ss, y3, hs, by omega, rfl⟩ ?_ ?_
      · rintro j2 d fr hj3 ⟨ts, y3, hs, hl, rfl⟩
        obtain ⟨c, hc, rfl⟩ := map_ix hj3
        have hj4 : j2 < cs.length := (List.getElem?_eq_some_iff.mp hc).1
        have hco := hcs.2 c (List.mem_of_getElem? hc)
        obtain ⟨ss', h1, h2, h3⟩ := inner c.its hco.2.2.2
        have m3 : (j2 + 1) * C = j2 * C + C := Nat.succ_mul j2 C
        have m4 : (j2 + 1) * C ≤ 9 * C := Nat.mul_le_mul_right C (by omega)
        have h4 : (ts.map lay).length + (ss'.map lay).length ≤ 1000000 := by rw [List.length_map, List.length_map]; omega
        obtain ⟨n1, nm1, its1⟩ := c
        have h1 : callF P wn k I.law_scopes [.val (lay its1)] = .ok (.own (ss'.map lay)) [.un] := h1
        wp_walk using Case.d, e1, h1
        exact ⟨ts ++ ss', _, fun s hs' => (List.mem_append.mp hs').elim (hs s) (h2 s), by rw [List.length_append]; omega, by rw [cat]⟩
      · rintro fr ⟨ts, y3, hs, hl, rfl⟩
        rw [List.length_map] at hl
        have m4 : cs.length * C ≤ 9 * C := Nat.mul_le_mul_right C (by omega)
        wp_walk
        exact ⟨ts, _, _, hs, by omega, rfl⟩
  · rintro fr ⟨ss, y2, y3, hs, hl, rfl⟩
    rw [List.length_map] at hl
    have m2 : its.length * C ≤ 10 * C := Nat.mul_le_mul_right C hL.len
    wp_walk
    exact ⟨ss, by first | rfl | trivial, by first | rfl | trivial, hs, by omega⟩
theorem Scp.scopes (H : Scp P I) : ∀ n : Nat, SB n ≤ 1000000 → ScpC P I wn n
  | 0, h => H.step h fun e z => by cases z
  | n + 1, h => H.step h fun e z => by
    cases z
    exact H.scopes n (by have : 1 + 90 * SB n ≤ 1000000 := h; omega)
end
end MP

/-! MP: sizes. -/
namespace MP
open PySem L2
/- word_size: 0 word -/
def F_word_size (I : Ix) : Fn := ⟨1, [false], [
  .ret (.kix I.d_WORD_SIZES (.var 0))]⟩
/- count_of: 0 item -/
def F_count_of (I : Ix) : Fn := ⟨1, [false], [
  .ite (.cmp .eq (.ix (.var 0) (.int 0)) (.str "array")) [
    .ret (.ix (.var 0) (.int 4))] [],
  .ret (.ix (.var 0) (.int 2))]⟩
/- allowed_numbers: 0 count -/
def F_allowed_numbers (I : Ix) : Fn := ⟨1, [false], [
  .ite (.cmp .eq (.ix (.var 0) (.int 0)) (.str "exactly")) [
    .ret (.lst [.ix (.var 0) (.int 1)])] [],
  .ite (.cmp .eq (.ix (.var 0) (.int 0)) (.str "counted")) [
    .ret (.lrng [.ix (.var 0) (.int 2), .bin .add (.ix (.var 0) (.int 3)) (.int 1)])] [],
  .ret (.lrng [.bin .add (.ix (.var 0) (.int 1)) (.int 1)])]⟩
/- frame_size: 0 count -/
def F_frame_size (I : Ix) : Fn := ⟨1, [false], [
  .ite (.cmp .eq (.ix (.var 0) (.int 0)) (.str "exactly")) [
    .ret (.int 0)] [],
  .ite (.cmp .eq (.ix (.var 0) (.int 0)) (.str "counted")) [
    .ret (.call I.word_size [.ix (.var 0) (.int 1)])] [],
  .ret (.int 1)]⟩
/- mark_size: 0 count -/
def F_mark_size (I : Ix) : Fn := ⟨1, [false], [
  .ite (.cmp .eq (.ix (.var 0) (.int 0)) (.str "marked")) [
    .ret (.int 1)] [],
  .ret (.int 0)]⟩
/- element_layout: 0 item 1 part -/
def F_element_layout (I : Ix) : Fn := ⟨2, [false], [
  .ite (.cmp .eq (.ix (.var 0) (.int 0)) (.str "array")) [
    .asg 1 (.tup [.str "", .bin .mul (.int 8) (.call I.word_size [.ix (.var 0) (.int 2)]), .ix (.var 0) (.int 3), .ix (.var 0) (.int 5), .ix (.var 0) (.int 6)]),
    .ret (.tup [.tup [.str "word", .ix (.var 0) (.int 2), .tup [.var 1]]])] [],
  .ret (.ix (.var 0) (.int 3))]⟩
/- fixed_size: 0 item -/
def F_fixed_size (I : Ix) : Fn := ⟨1, [false], [
  .ite (.cmp .eq (.ix (.var 0) (.int 0)) (.str "word")) [
    .ret (.call I.word_size [.ix (.var 0) (.int 1)])] [],
  .ite (.cmp .eq (.ix (.var 0) (.int 0)) (.str "literal")) [
    .ret (.bi .len [.ix (.var 0) (.int 1)])] [],
  .ite (.cmp .eq (.ix (.var 0) (.int 0)) (.str "reserved")) [
    .ret (.ix (.var 0) (.int 1))] [],
  .ret (.int 1)]⟩
/- item_sizes: 0 item 1 count 2 numbers 3 least 4 greatest 5 frame 6 mark 7 found 8 case 9 size 10 pair -/
def F_item_sizes (I : Ix) : Fn := ⟨11, [false], [
  .ite (.cmp .in_ (.ix (.var 0) (.int 0)) (.tup [.str "array", .str "list"])) [
    .asg 1 (.call I.count_of [.var 0]),
    .asg 2 (.call I.allowed_numbers [.var 1]),
    .asgT [.v 3, .v 4] (.call I.sizes [.call I.element_layout [.var 0]]),
    .par [5, 6] [.call I.frame_size [.var 1], .call I.mark_size [.var 1]],
    .ret (.tup [.bin .add (.var 5) (.bin .mul (.ix (.var 2) (.int 0)) (.bin .add (.var 6) (.var 3))), .bin .add (.var 5) (.bin .mul (.ix (.var 2) (.neg (.int 1))) (.bin .add (.var 6) (.var 4)))])] [],
  .ite (.cmp .eq (.ix (.var 0) (.int 0)) (.str "choice")) [
    .asg 7 (.lc (.call I.sizes [.ix (.var 8) (.int 2)]) (.v 8) (.ix (.var 0) (.int 3)) [] [8]),
    .asg 9 (.call I.word_size [.ix (.var 0) (.int 2)]),
    .ret (.tup [.bin .add (.var 9) (.bi .min [.lc (.ix (.var 10) (.int 0)) (.v 10) (.var 7) [] [10]]), .bin .add (.var 9) (.bi .max [.lc (.ix (.var 10) (.int 1)) (.v 10) (.var 7) [] [10]])])] [],
  .ite (.cmp .eq (.ix (.var 0) (.int 0)) (.str "record")) [
    .ret (.call I.sizes [.ix (.var 0) (.int 2)])] [],
  .ret (.tup [.call I.fixed_size [.var 0], .call I.fixed_size [.var 0]])]⟩
/- sizes: 0 layout 1 pairs 2 item 3 pair -/
def F_sizes (I : Ix) : Fn := ⟨4, [false], [
  .asg 1 (.lc (.call I.item_sizes [.var 2]) (.v 2) (.var 0) [] [2]),
  .ret (.tup [.bi .sum [.lc (.ix (.var 3) (.int 0)) (.v 3) (.var 1) [] [3]], .bi .sum [.lc (.ix (.var 3) (.int 1)) (.v 3) (.var 1) [] [3]]])]⟩
structure Sz (P : Prg) (I : Ix) : Prop where
  word_size : P.fns[I.word_size]? = some (F_word_size I)
  count_of : P.fns[I.count_of]? = some (F_count_of I)
  allowed_numbers : P.fns[I.allowed_numbers]? = some (F_allowed_numbers I)
  frame_size : P.fns[I.frame_size]? = some (F_frame_size I)
  mark_size : P.fns[I.mark_size]? = some (F_mark_size I)
  element_layout : P.fns[I.element_layout]? = some (F_element_layout I)
  fixed_size : P.fns[I.fixed_size]? = some (F_fixed_size I)
  item_sizes : P.fns[I.item_sizes]? = some (F_item_sizes I)
  sizes : P.fns[I.sizes]? = some (F_sizes I)
theorem Sz.io_word_size {P : Prg} {I : Ix} (H : Sz P I) : P.io I.word_size = [false] := io_of H.word_size
theorem Sz.io_count_of {P : Prg} {I : Ix} (H : Sz P I) : P.io I.count_of = [false] := io_of H.count_of
theorem Sz.io_allowed_numbers {P : Prg} {I : Ix} (H : Sz P I) : P.io I.allowed_numbers = [false] := io_of H.allowed_numbers
theorem Sz.io_frame_size {P : Prg} {I : Ix} (H : Sz P I) : P.io I.frame_size = [false] := io_of H.frame_size
theorem Sz.io_mark_size {P : Prg} {I : Ix} (H : Sz P I) : P.io I.mark_size = [false] := io_of H.mark_size
theorem Sz.io_element_layout {P : Prg} {I : Ix} (H : Sz P I) : P.io I.element_layout = [false] := io_of H.element_layout
theorem Sz.io_fixed_size {P : Prg} {I : Ix} (H : Sz P I) : P.io I.fixed_size = [false] := io_of H.fixed_size
theorem Sz.io_item_sizes {P : Prg} {I : Ix} (H : Sz P I) : P.io I.item_sizes = [false] := io_of H.item_sizes
theorem Sz.io_sizes {P : Prg} {I : Ix} (H : Sz P I) : P.io I.sizes = [false] := io_of H.sizes
/- law_extent: 0 items 1 pairs 2 item 3 pair -/
def F_law_extent (I : Ix) : Fn := ⟨4, [false], [
  .asg 1 (.lc (.call I.law_extent_of [.var 2]) (.v 2) (.var 0) [] [2]),
  .ret (.tup [.bi .sum [.lc (.ix (.var 3) (.int 0)) (.v 3) (.var 1) [] [3]], .bi .sum [.lc (.ix (.var 3) (.int 1)) (.v 3) (.var 1) [] [3]]])]⟩
/- law_extent_of: 0 item 1 pairs 2 case 3 size_here 4 pair 5 each 6 count 7 ends -/
def F_law_extent_of (I : Ix) : Fn := ⟨8, [false], [
  .ite (.cmp .eq (.ix (.var 0) (.int 0)) (.str "word")) [
    .ret (.tup [.call I.law_size [.ix (.var 0) (.int 1)], .call I.law_size [.ix (.var 0) (.int 1)]])] [],
  .ite (.cmp .eq (.ix (.var 0) (.int 0)) (.str "literal")) [
    .ret (.tup [.bi .len [.ix (.var 0) (.int 1)], .bi .len [.ix (.var 0) (.int 1)]])] [],
  .ite (.cmp .eq (.ix (.var 0) (.int 0)) (.str "reserved")) [
    .ret (.tup [.ix (.var 0) (.int 1), .ix (.var 0) (.int 1)])] [],
  .ite (.cmp .eq (.ix (.var 0) (.int 0)) (.str "check")) [
    .ret (.tup [.int 1, .int 1])] [],
  .ite (.cmp .eq (.ix (.var 0) (.int 0)) (.str "record")) [
    .ret (.call I.law_extent [.ix (.var 0) (.int 2)])] [],
  .ite (.cmp .eq (.ix (.var 0) (.int 0)) (.str "choice")) [
    .asg 1 (.lc (.call I.law_extent [.ix (.var 2) (.int 2)]) (.v 2) (.ix (.var 0) (.int 3)) [] [2]),
    .asg 3 (.call I.law_size [.ix (.var 0) (.int 2)]),
    .ret (.tup [.bin .add (.var 3) (.bi .min [.lc (.ix (.var 4) (.int 0)) (.v 4) (.var 1) [] [4]]), .bin .add (.var 3) (.bi .max [.lc (.ix (.var 4) (.int 1)) (.v 4) (.var 1) [] [4]])])] [],
  .asg 5 (.ite (.cmp .eq (.ix (.var 0) (.int 0)) (.str "list")) (.call I.law_extent [.ix (.var 0) (.int 3)]) (.tup [.call I.law_size [.ix (.var 0) (.int 2)], .call I.law_size [.ix (.var 0) (.int 2)]])),
  .asg 6 (.ite (.cmp .eq (.ix (.var 0) (.int 0)) (.str "array")) (.ix (.var 0) (.int 4)) (.ix (.var 0) (.int 2))),
  .asg 7 (.call I.law_bounds [.var 6]),
  .ite (.cmp .eq (.ix (.var 6) (.int 0)) (.str "marked")) [
    .ret (.tup [.int 1, .bin .add (.int 1) (.bin .mul (.ix (.var 7) (.int 1)) (.bin .add (.int 1) (.ix (.var 5) (.int 1))))])] [],
  .asg 3 (.ite (.cmp .eq (.ix (.var 6) (.int 0)) (.str "counted")) (.call I.law_size [.ix (.var 6) (.int 1)]) (.int 0)),
  .ret (.tup [.bin .add (.var 3) (.bin .mul (.ix (.var 7) (.int 0)) (.ix (.var 5) (.int 0))), .bin .add (.var 3) (.bin .mul (.ix (.var 7) (.int 1)) (.ix (.var 5) (.int 1)))])]⟩
structure Ext (P : Prg) (I : Ix) : Prop where
  law_size : P.fns[I.law_size]? = some (F_law_size I)
  law_bounds : P.fns[I.law_bounds]? = some (F_law_bounds I)
  law_extent : P.fns[I.law_extent]? = some (F_law_extent I)
  law_extent_of : P.fns[I.law_extent_of]? = some (F_law_extent_of I)
theorem Ext.io_law_size {P : Prg} {I : Ix} (H : Ext P I) : P.io I.law_size = [false] := io_of H.law_size
theorem Ext.io_law_bounds {P : Prg} {I : Ix} (H : Ext P I) : P.io I.law_bounds = [false] := io_of H.law_bounds
theorem Ext.io_law_extent {P : Prg} {I : Ix} (H : Ext P I) : P.io I.law_extent = [false] := io_of H.law_extent
theorem Ext.io_law_extent_of {P : Prg} {I : Ix} (H : Ext P I) : P.io I.law_extent_of = [false] := io_of H.law_extent_of
structure Wsz (P : Prg) (I : Ix) : Prop where
  word_size : P.fns[I.word_size]? = some (F_word_size I)
theorem Wsz.io_word_size {P : Prg} {I : Ix} (H : Wsz P I) : P.io I.word_size = [false] := io_of H.word_size
/-- the word sizes of the module -/
def wsD : List (Str × D) := [(Str.ofString "u8", .int 1), (Str.ofString "u16be", .int 2), (Str.ofString "u16le", .int 2), (Str.ofString "u32be", .int 4), (Str.ofString "u32le", .int 4)]
local macro_rules | `(tactic| wp_walk) => `(tactic| simp -implicitDefEqProofs (disch := first | assumption | omega | (simp only [List.length_cons, List.length_nil, List.length_map, List.length_append]; omega)) only [MP.bnd_ap, MP.bX_ok, MP.thenS_ap, MP.tX_ok, MP.seqS_nx, MP.seqS_rt, MP.seqS_bk, MP.seqS_ct, MP.ret_ap, MP.opt_some, MP.when_true, MP.evB_nil, MP.evB_cons, MP.evS_asg, MP.evS_asgT, MP.evS_aug, MP.evS_setix, MP.evS_par, MP.sets_nil, MP.sets_cons, MP.evS_ex, MP.evS_ite, MP.evS_for, MP.evS_whl, MP.evS_ret, MP.evS_retN, MP.evS_brk, MP.evS_cont, MP.evS_pass, MP.selS_true, MP.selS_false, MP.selM_true, MP.selM_false, MP.slK_ap, MP.itK_ap, MP.tru_ap, MP.fz_ap, MP.var_v, MP.var_t, MP.var_o, MP.var_i, MP.int_v, MP.int_o, MP.str_v, MP.str_o, MP.bl_v, MP.bl_o, MP.bl_t, MP.non_v, MP.non_o, MP.glo_v, MP.glo_o, MP.glo_i, MP.tup_v, MP.tup_o, MP.tup_i, MP.lst_v, MP.lst_o, MP.lst_i, MP.bin_v, MP.bin_o, MP.bin_t, MP.bin_i, MP.negK_int, MP.neg_v, MP.neg_o, MP.not_v, MP.not_t, MP.not_o, MP.isB_bl, MP.and_v, MP.and_t, MP.and_o, MP.or_v, MP.or_t, MP.or_o, MP.cmp_t, MP.cmp_v, MP.cmp_o, MP.cmp2_t, MP.cmp2_v, MP.cmp2_o, MP.ite_v, MP.ite_o, MP.ite_i, MP.kix_v, MP.kix_o, MP.ix_v, MP.ix_o, MP.ix_t, MP.ix_i, MP.sl_v, MP.sl_o, MP.sl_i, MP.rev_v, MP.rev_o, MP.rev_i, MP.revK_t, MP.revK_l, MP.call_v, MP.call_o, MP.call_t, MP.call_i, MP.bi_v, MP.bi_o, MP.bi_t, MP.bi_i, MP.isi_v, MP.isi_o, MP.isi_t, MP.app_v, MP.ext_v, MP.pop_v, MP.pop_o, MP.revm_v, MP.rng_i, MP.dic_v, MP.dic_o, MP.lrng_v, MP.lrng_o, MP.lrng_i, MP.enu_i, MP.lc_v, MP.lc_o, MP.lc_i, MP.evs_nil, MP.evs_cons, MP.vals_nil, MP.vals_cons, MP.opds_nil, MP.opds_cons, MP.rdOs_nil, MP.rdOs_cons, MP.args_nil, MP.args_t, MP.args_f, MP.rdO_at, MP.rdO_sl, MP.d_val, MP.d_own, MP.d_lk, MP.opAt_ap, MP.opAtS_val, MP.opAtS_own, MP.opAtS_lk, MP.cap_ap, MP.capS_some, MP.retV_var, MP.retS_own, MP.retS_val, MP.ownAt_ap, MP.ownS_own, MP.chg_ap, MP.chgS_own, MP.chgO_some, MP.setAt_int, MP.itO_at', MP.itS_own, MP.itS_val, MP.itO_sl', MP.part_nil, MP.part_cons, MP.partK_int, MP.extK_lst, MP.callM_ap, MP.endC_ok, MP.takes_nil, MP.takes_at, MP.takes_sl, MP.backs_at, MP.backs_sl, MP.backs_nil, MP.lent_t, MP.lent_f, MP.lent_n, MP.endF_rt, MP.endF_nx, MP.onFr_nx, MP.onFr_rt, MP.unlk_nil, MP.retV_int, MP.retV_str, MP.retV_bl, MP.retV_non, MP.retV_glo, MP.retV_tup, MP.retV_lst, MP.retV_dic, MP.retV_bin, MP.retV_neg, MP.retV_not, MP.retV_and, MP.retV_or, MP.retV_cmp, MP.retV_cmp2, MP.retV_ite, MP.retV_kix, MP.retV_ix, MP.retV_sl, MP.retV_rev, MP.retV_call, MP.retV_bi, MP.retV_isi, MP.retV_mt, MP.retV_pop, MP.retV_lrng, MP.retV_lc, MP.retV_fs, MP.sl0, MP.sl1, MP.sl2, MP.sl3, MP.sl4, MP.sl5, MP.sl6, MP.sl7, MP.sl8, MP.sl9, MP.sl10, MP.sl11, MP.set0, MP.set1, MP.set2, MP.set3, MP.set4, MP.set5, MP.set6, MP.set7, MP.set8, MP.set9, MP.set10, MP.set11, MP.add_i, MP.sub_i, MP.pow_i, MP.and_i, MP.or_i, MP.xor_i, MP.eq_i, MP.ne_i, MP.lt_i, MP.le_i, MP.gt_i, MP.ge_i, MP.eq_s, MP.ne_s, MP.ix_l, MP.ix_t', MP.len_l, MP.len_t, MP.abs_i, MP.int_i, MP.max_i, MP.min_i, MP.list_l, MP.list_t, MP.list_s, MP.tuple_l, MP.omap_some, MP.obind_some, decide_true, decide_false, MP.tr_bl, MP.isi_ii, MP.isi_ib, MP.turnO_ap, MP.asgT_v, MP.asgT_tup, MP.asgTs_nil, MP.asgTs_cons, MP.forK_ap, MP.lcM_ap, MP.lcStep_ap, MP.wipeF_nil, MP.wipeF_cons, MP.putF_nil, MP.putF_cons, MP.ifsM_nil, MP.ifsM_cons, MP.seqI_l, MP.seqI_t, MP.seqI_s, MP.sEq, MP.atI_0, MP.atI_1, MP.atI_2, MP.atI_3, MP.atI_4, MP.atI_5, MP.atI_6, MP.atI_mapp, MP.atI_m1, MP.sz_if, MP.dlt_t, MP.dlt_f, MP.dle_t, MP.dle_f, MP.beq_t, MP.beq_f, MP.bne_t, MP.bne_f, MP.mul_okr, MP.mul_okl, MP.fdiv_ok, MP.mod_ok, MP.shl1_ok, MP.shl_ok, MP.shr_ok, MP.add_t, MP.add_lo, MP.add_so, MP.app_ok, MP.ext_ok, MP.rng1_ok, MP.rng2_ok, MP.eq_n, MP.ne_n, MP.isN_n, MP.isN_i, MP.isN_s, MP.isN_t, MP.isN_l, MP.isN_b, MP.tr_t, MP.tr_l, MP.tr_i, MP.kix_s, MP.look_c, MP.look_n, MP.ixd, MP.key_i, MP.key_s, MP.dl_c, MP.sum_ii, MP.sum_ss, MP.isi_tt, MP.isi_tl, MP.isi_ts, MP.isi_tb, MP.isi_ti, MP.isi_ll, MP.isi_lt, MP.isi_ss, MP.isi_st, MP.isi_sl, MP.isi_sb, MP.isi_si, MP.isi_is, MP.isi_it, MP.isi_il, MP.isi_bb, MP.isi_bi, MP.isi_bt, MP.isi_blx, MP.isi_nt, MP.isi_nl, MP.isi_nb, MP.isi_ni, MP.isi_ns, MP.eq_b, MP.sl12, MP.sl13, MP.sl14, MP.set12, MP.set13, MP.set14, MP.lc_t, MP.part_mn, MP.part_mc, MP.enuOk_l, MP.enuOk_t, MP.zip_i, MP.zipV_ll, MP.zipV_lt, MP.zipV_tl, MP.zipV_tt, MP.fs_v, MP.fs_o, MP.fsM_n, MP.fsM_c, MP.strOf_s, MP.sl_t, MP.sl_l, MP.mt_v, MP.mt_o, MP.mt_t, MP.mt_i, MP.ty_split, MP.ty_endswith, MP.ty_startswith, MP.ty_join, MP.ty_index, MP.ty_get, MP.csat_ok, MP.tsat_nx, MP.tsat_ct, MP.unlk_c, ↓reduceIte, String.reduceEq, Int.reduceEq, Int.reduceLT, Int.reduceLE, Int.reduceAdd, Int.reduceSub, Int.reduceMul, Int.reduceNeg, Int.reduceToNat, Nat.reduceAdd, Nat.reduceSub, List.length_cons, List.length_nil, Int.one_mul, Bool.not_true, Bool.not_false, Bool.and_true, Bool.true_and, Bool.and_false, Bool.false_and, Bool.or_true, Bool.true_or, Bool.or_false, Bool.false_or, List.isEmpty_cons, List.isEmpty_nil, List.cons_append, List.nil_append, List.append_nil, MP.Sz.io_word_size, MP.Sz.io_count_of, MP.Sz.io_allowed_numbers, MP.Sz.io_frame_size, MP.Sz.io_mark_size, MP.Sz.io_element_layout, MP.Sz.io_fixed_size, MP.Sz.io_item_sizes, MP.Sz.io_sizes, MP.Ext.io_law_size, MP.Ext.io_law_bounds, MP.Ext.io_law_extent, MP.Ext.io_law_extent_of])
local macro_rules | `(tactic| wp_walk using $ts:term,*) => `(tactic| simp -implicitDefEqProofs (disch := first | assumption | omega | (simp only [List.length_cons, List.length_nil, List.length_map, List.length_append]; omega)) only [MP.bnd_ap, MP.bX_ok, MP.thenS_ap, MP.tX_ok, MP.seqS_nx, MP.seqS_rt, MP.seqS_bk, MP.seqS_ct, MP.ret_ap, MP.opt_some, MP.when_true, MP.evB_nil, MP.evB_cons, MP.evS_asg, MP.evS_asgT, MP.evS_aug, MP.evS_setix, MP.evS_par, MP.sets_nil, MP.sets_cons, MP.evS_ex, MP.evS_ite, MP.evS_for, MP.evS_whl, MP.evS_ret, MP.evS_retN, MP.evS_brk, MP.evS_cont, MP.evS_pass, MP.selS_true, MP.selS_false, MP.selM_true, MP.selM_false, MP.slK_ap, MP.itK_ap, MP.tru_ap, MP.fz_ap, MP.var_v, MP.var_t, MP.var_o, MP.var_i, MP.int_v, MP.int_o, MP.str_v, MP.str_o, MP.bl_v, MP.bl_o, MP.bl_t, MP.non_v, MP.non_o, MP.glo_v, MP.glo_o, MP.glo_i, MP.tup_v, MP.tup_o, MP.tup_i, MP.lst_v, MP.lst_o, MP.lst_i, MP.bin_v, MP.bin_o, MP.bin_t, MP.bin_i, MP.negK_int, MP.neg_v, MP.neg_o, MP.not_v, MP.not_t, MP.not_o, MP.isB_bl, MP.and_v, MP.and_t, MP.and_o, MP.or_v, MP.or_t, MP.or_o, MP.cmp_t, MP.cmp_v, MP.cmp_o, MP.cmp2_t, MP.cmp2_v, MP.cmp2_o, MP.ite_v, MP.ite_o, MP.ite_i, MP.kix_v, MP.kix_o, MP.ix_v, MP.ix_o, MP.ix_t, MP.ix_i, MP.sl_v, MP.sl_o, MP.sl_i, MP.rev_v, MP.rev_o, MP.rev_i, MP.revK_t, MP.revK_l, MP.call_v, MP.call_o, MP.call_t, MP.call_i, MP.bi_v, MP.bi_o, MP.bi_t, MP.bi_i, MP.isi_v, MP.isi_o, MP.isi_t, MP.app_v, MP.ext_v, MP.pop_v, MP.pop_o, MP.revm_v, MP.rng_i, MP.dic_v, MP.dic_o, MP.lrng_v, MP.lrng_o, MP.lrng_i, MP.enu_i, MP.lc_v, MP.lc_o, MP.lc_i, MP.evs_nil, MP.evs_cons, MP.vals_nil, MP.vals_cons, MP.opds_nil, MP.opds_cons, MP.rdOs_nil, MP.rdOs_cons, MP.args_nil, MP.args_t, MP.args_f, MP.rdO_at, MP.rdO_sl, MP.d_val, MP.d_own, MP.d_lk, MP.opAt_ap, MP.opAtS_val, MP.opAtS_own, MP.opAtS_lk, MP.cap_ap, MP.capS_some, MP.retV_var, MP.retS_own, MP.retS_val, MP.ownAt_ap, MP.ownS_own, MP.chg_ap, MP.chgS_own, MP.chgO_some, MP.setAt_int, MP.itO_at', MP.itS_own, MP.itS_val, MP.itO_sl', MP.part_nil, MP.part_cons, MP.partK_int, MP.extK_lst, MP.callM_ap, MP.endC_ok, MP.takes_nil, MP.takes_at, MP.takes_sl, MP.backs_at, MP.backs_sl, MP.backs_nil, MP.lent_t, MP.lent_f, MP.lent_n, MP.endF_rt, MP.endF_nx, MP.onFr_nx, MP.onFr_rt, MP.unlk_nil, MP.retV_int, MP.retV_str, MP.retV_bl, MP.retV_non, MP.retV_glo, MP.retV_tup, MP.retV_lst, MP.retV_dic, MP.retV_bin, MP.retV_neg, MP.retV_not, MP.retV_and, MP.retV_or, MP.retV_cmp, MP.retV_cmp2, MP.retV_ite, MP.retV_kix, MP.retV_ix, MP.retV_sl, MP.retV_rev, MP.retV_call, MP.retV_bi, MP.retV_isi, MP.retV_mt, MP.retV_pop, MP.retV_lrng, MP.retV_lc, MP.retV_fs, MP.sl0, MP.sl1, MP.sl2, MP.sl3, MP.sl4, MP.sl5, MP.sl6, MP.sl7, MP.sl8, MP.sl9, MP.sl10, MP.sl11, MP.set0, MP.set1, MP.set2, MP.set3, MP.set4, MP.set5, MP.set6, MP.set7, MP.set8, MP.set9, MP.set10, MP.set11, MP.add_i, MP.sub_i, MP.pow_i, MP.and_i, MP.or_i, MP.xor_i, MP.eq_i, MP.ne_i, MP.lt_i, MP.le_i, MP.gt_i, MP.ge_i, MP.eq_s, MP.ne_s, MP.ix_l, MP.ix_t', MP.len_l, MP.len_t, MP.abs_i, MP.int_i, MP.max_i, MP.min_i, MP.list_l, MP.list_t, MP.list_s, MP.tuple_l, MP.omap_some, MP.obind_some, decide_true, decide_false, MP.tr_bl, MP.isi_ii, MP.isi_ib, MP.turnO_ap, MP.asgT_v, MP.asgT_tup, MP.asgTs_nil, MP.asgTs_cons, MP.forK_ap, MP.lcM_ap, MP.lcStep_ap, MP.wipeF_nil, MP.wipeF_cons, MP.putF_nil, MP.putF_cons, MP.ifsM_nil, MP.ifsM_cons, MP.seqI_l, MP.seqI_t, MP.seqI_s, MP.sEq, MP.atI_0, MP.atI_1, MP.atI_2, MP.atI_3, MP.atI_4, MP.atI_5, MP.atI_6, MP.atI_mapp, MP.atI_m1, MP.sz_if, MP.dlt_t, MP.dlt_f, MP.dle_t, MP.dle_f, MP.beq_t, MP.beq_f, MP.bne_t, MP.bne_f, MP.mul_okr, MP.mul_okl, MP.fdiv_ok, MP.mod_ok, MP.shl1_ok, MP.shl_ok, MP.shr_ok, MP.add_t, MP.add_lo, MP.add_so, MP.app_ok, MP.ext_ok, MP.rng1_ok, MP.rng2_ok, MP.eq_n, MP.ne_n, MP.isN_n, MP.isN_i, MP.isN_s, MP.isN_t, MP.isN_l, MP.isN_b, MP.tr_t, MP.tr_l, MP.tr_i, MP.kix_s, MP.look_c, MP.look_n, MP.ixd, MP.key_i, MP.key_s, MP.dl_c, MP.sum_ii, MP.sum_ss, MP.isi_tt, MP.isi_tl, MP.isi_ts, MP.isi_tb, MP.isi_ti, MP.isi_ll, MP.isi_lt, MP.isi_ss, MP.isi_st, MP.isi_sl, MP.isi_sb, MP.isi_si, MP.isi_is, MP.isi_it, MP.isi_il, MP.isi_bb, MP.isi_bi, MP.isi_bt, MP.isi_blx, MP.isi_nt, MP.isi_nl, MP.isi_nb, MP.isi_ni, MP.isi_ns, MP.eq_b, MP.sl12, MP.sl13, MP.sl14, MP.set12, MP.set13, MP.set14, MP.lc_t, MP.part_mn, MP.part_mc, MP.enuOk_l, MP.enuOk_t, MP.zip_i, MP.zipV_ll, MP.zipV_lt, MP.zipV_tl, MP.zipV_tt, MP.fs_v, MP.fs_o, MP.fsM_n, MP.fsM_c, MP.strOf_s, MP.sl_t, MP.sl_l, MP.mt_v, MP.mt_o, MP.mt_t, MP.mt_i, MP.ty_split, MP.ty_endswith, MP.ty_startswith, MP.ty_join, MP.ty_index, MP.ty_get, MP.csat_ok, MP.tsat_nx, MP.tsat_ct, MP.unlk_c, ↓reduceIte, String.reduceEq, Int.reduceEq, Int.reduceLT, Int.reduceLE, Int.reduceAdd, Int.reduceSub, Int.reduceMul, Int.reduceNeg, Int.reduceToNat, Nat.reduceAdd, Nat.reduceSub, List.length_cons, List.length_nil, Int.one_mul, Bool.not_true, Bool.not_false, Bool.and_true, Bool.true_and, Bool.and_false, Bool.false_and, Bool.or_true, Bool.true_or, Bool.or_false, Bool.false_or, List.isEmpty_cons, List.isEmpty_nil, List.cons_append, List.nil_append, List.append_nil, MP.Sz.io_word_size, MP.Sz.io_count_of, MP.Sz.io_allowed_numbers, MP.Sz.io_frame_size, MP.Sz.io_mark_size, MP.Sz.io_element_layout, MP.Sz.io_fixed_size, MP.Sz.io_item_sizes, MP.Sz.io_sizes, MP.Ext.io_law_size, MP.Ext.io_law_bounds, MP.Ext.io_law_extent, MP.Ext.io_law_extent_of, $[$ts:term],*])
def minV (xs : List Int) : Int := (minL xs).getD 0
def maxV (xs : List Int) : Int := (maxL xs).getD 0
theorem min_ints {xs : List Int} (h : xs ≠ []) : bi .min [.lst (xs.map D.int)] = some (.val (.int (minV xs))) := by
  show (intsOf (xs.map D.int)).bind (fun ns => (minL ns).map fun m => Slot.val (.int m)) = _
  rw [intsOf_map]
  cases xs with
  | nil => exact absurd rfl h
  | cons x r => rfl
theorem max_ints {xs : List Int} (h : xs ≠ []) : bi .max [.lst (xs.map D.int)] = some (.val (.int (maxV xs))) := by
  show (intsOf (xs.map D.int)).bind (fun ns => (maxL ns).map fun m => Slot.val (.int m)) = _
  rw [intsOf_map]
  cases xs with
  | nil => exact absurd rfl h
  | cons x r => rfl
theorem sum_ints (xs : List Int) : bi .sum [.lst (xs.map D.int)] = some (.val (.int xs.sum)) := by
  show (intsOf (xs.map D.int)).map (fun ns => Slot.val (.int ns.sum)) = _
  rw [intsOf_map]; rfl
theorem min_mapi {α : Type} (f : α → Int) {xs : List α} (h : xs ≠ []) : bi .min [.lst (xs.map fun a => D.int (f a))] = some (.val (.int (minV (xs.map f)))) := by
  have := min_ints (xs := xs.map f) (by simpa using h)
  rw [List.map_map] at this; exact this
theorem max_mapi {α : Type} (f : α → Int) {xs : List α} (h : xs ≠ []) : bi .max [.lst (xs.map fun a => D.int (f a))] = some (.val (.int (maxV (xs.map f)))) := by
  have := max_ints (xs := xs.map f) (by simpa using h)
  rw [List.map_map] at this; exact this
theorem sum_mapi {α : Type} (f : α → Int) (xs : List α) : bi .sum [.lst (xs.map fun a => D.int (f a))] = some (.val (.int (xs.map f).sum)) := by
  have := sum_ints (xs.map f)
  rw [List.map_map] at this; exact this
def Cnt.sz (c : Cnt) (e : Int × Int) : Int × Int := match c with
  | .exactly n => (n * e.1, n * e.2)
  | .marked n => (1, 1 + n * (1 + e.2))
  | .counted w lo hi => (w.sz + lo * e.1, w.sz + hi * e.2)
def Wd.p (w : Wd) : Int × Int := (w.sz, w.sz)
mutual
def Item.sz : Item → Int × Int
  | .word w _ => w.p
  | .lit bs => (bs.length, bs.length)
  | .res n => (n, n)
  | .chk _ => (1, 1)
  | .arr _ w _ c _ _ => c.sz w.p
  | .lst _ c its => c.sz (Item.szs its)
  | .cho _ w cs => (w.sz + minV ((Case.szl cs).map (·.1)), w.sz + maxV ((Case.szl cs).map (·.2)))
  | .rcd _ its => Item.szs its
def Item.szs : List Item → Int × Int
  | [] => (0, 0)
  | i :: r => (i.sz.1 + (Item.szs r).1, i.sz.2 + (Item.szs r).2)
def Case.szl : List Case → List (Int × Int)
  | [] => []
  | .mk _ _ its :: r => Item.szs its :: Case.szl r
end
theorem szs_map : ∀ its : List Item, Item.szs its = ((its.map fun i => i.sz.1).sum, (its.map fun i => i.sz.2).sum)
  | [] => rfl
  | i :: r => by rw [Item.szs, szs_map r]; simp
theorem szl_map : ∀ cs : List Case, Case.szl cs = cs.map fun c => Item.szs c.its
  | [] => rfl
  | .mk _ _ its :: r => by rw [Case.szl, szl_map r]; rfl
theorem sum_rev : ∀ xs : List Int, xs.reverse.sum = xs.sum := fun xs => by
  induction xs with
  | nil => rfl
  | cons x r ih => rw [List.reverse_cons, List.sum_append, ih]; simp; omega
theorem szs_rev (its : List Item) : Item.szs its.reverse = Item.szs its := by
  rw [szs_map, szs_map, List.map_reverse, List.map_reverse, sum_rev, sum_rev]
def pD (p : Int × Int) : D := .tup [.int p.1, .int p.2]
section
variable {P : Prg} {I : Ix} {wn kk : Nat}
theorem Wsz.word_sz (H : Wsz P I) (hd : P.dct[I.d_WORD_SIZES]? = some wsD) (hk : 0 < kk) (w : Wd) : callF P wn kk I.word_size [.val (.str w.str)] = .ok (.val (.int w.sz)) [.un] := by
  obtain ⟨k, rfl⟩ : ∃ k, kk = k + 1 := ⟨kk - 1, by omega⟩
  rw [callF_succ P wn k H.word_size _ rfl]
  unfold F_word_size
  simp only [List.length_cons, List.length_nil, List.reduceReplicate, Nat.reduceSub, Nat.reduceAdd, List.cons_append, List.nil_append]
  cases w <;> wp_walk using Wd.str, Wd.s, Wd.sz, hd, wsD
theorem Sz.word_sz (H : Sz P I) (hd : P.dct[I.d_WORD_SIZES]? = some wsD) (hk : 0 < kk) (w : Wd) : callF P wn kk I.word_size [.val (.str w.str)] = .ok (.val (.int w.sz)) [.un] :=
  Wsz.word_sz ⟨H.word_size⟩ hd hk w
theorem Sz.cnt_of (H : Sz P I) (hk : 0 < kk) (nm : Str) (w : Wd) (sg : Bool) (c : Cnt) (rs : Option Rs) (df : Option Int) : callF P wn kk I.count_of [.val (Item.arr nm w sg c rs df).d] = .ok (.val c.d) [.un] := by
  obtain ⟨k, rfl⟩ : ∃ k, kk = k + 1 := ⟨kk - 1, by omega⟩
  rw [callF_succ P wn k H.count_of _ rfl]
  unfold F_count_of
  simp only [List.length_cons, List.length_nil, List.reduceReplicate, Nat.reduceSub, Nat.reduceAdd, List.cons_append, List.nil_append]
  wp_walk using Item.d
theorem Sz.cnt_of2 (H : Sz P I) (hk : 0 < kk) (nm : Str) (c : Cnt) (its : List Item) : callF P wn kk I.count_of [.val (Item.lst nm c its).d] = .ok (.val c.d) [.un] := by
  obtain ⟨k, rfl⟩ : ∃ k, kk = k + 1 := ⟨kk - 1, by omega⟩
  rw [callF_succ P wn k H.count_of _ rfl]
  unfold F_count_of
  simp only [List.length_cons, List.length_nil, List.reduceReplicate, Nat.reduceSub, Nat.reduceAdd, List.cons_append, List.nil_append]
  wp_walk using Item.d
def Cnt.ns (c : Cnt) : List Int := intL c.lo (c.hi + 1 - c.lo).toNat
theorem ns_ends {c : Cnt} (h : c.ok) : c.ns ≠ [] ∧ c.ns.length ≤ 61 ∧ atI c.ns 0 = some c.lo ∧ atI c.ns (-1) = some c.hi := by
  have b : 0 ≤ c.lo ∧ c.lo ≤ c.hi ∧ c.hi ≤ 60 := by cases c <;> (unfold Cnt.ok at h; unfold Cnt.lo Cnt.hi; dsimp only at *; omega)
  unfold Cnt.ns
  obtain ⟨m, hm⟩ : ∃ m : Nat, (c.hi + 1 - c.lo).toNat = m + 1 := ⟨(c.hi - c.lo).toNat, by omega⟩
  have hl := ints_len c.lo (m + 1)
  rw [hm]
  have hne : intL c.lo (m + 1) ≠ [] := fun z => by rw [z] at hl; cases hl
  refine ⟨hne, by omega, ?_, ?_⟩
  · rw [atI_ok (by omega) (by omega)]
    unfold intL
    rw [List.getElem?_map, List.getElem?_range (by omega)]
    show some (c.lo + _) = _
    congr 1; omega
  · rw [atI_m hne, hl]
    unfold intL
    rw [List.getElem?_map, List.getElem?_range (by omega)]
    show some (c.lo + ((m + 1 - 1 : Nat) : Int)) = _
    congr 1; omega
theorem Sz.allowed (H : Sz P I) (hk : 0 < kk) {c : Cnt} (h : c.ok) : callF P wn kk I.allowed_numbers [.val c.d] = .ok (.own (c.ns.map .int)) [.un] := by
  obtain ⟨k, rfl⟩ : ∃ k, kk = k + 1 := ⟨kk - 1, by omega⟩
  rw [callF_succ P wn k H.allowed_numbers _ rfl]
  unfold F_allowed_numbers
  simp only [List.length_cons, List.length_nil, List.reduceReplicate, Nat.reduceSub, Nat.reduceAdd, List.cons_append, List.nil_append]
  cases c with
  | exactly n =>
    wp_walk using Cnt.d
    have e : Cnt.ns (.exactly n) = [n] := by
      show intL n (n + 1 - n).toNat = _
      rw [show (n + 1 - n).toNat = 1 by omega]
      show [n + ((0 : Nat) : Int)] = _
      congr 1; omega
    rw [e]; rfl
  | marked n =>
    have h : 1 ≤ n ∧ n ≤ 60 := h
    have e : (upto 0 (n + 1).toNat).length = (n + 1).toNat := upto_len _ _
    have hz : (upto 0 (n + 1).toNat).length ≤ 1000000 := by omega
    wp_walk using Cnt.d
    rw [upto_ints]
    show _ = COut.ok (Slot.own ((intL 0 (n + 1 - 0).toNat).map .int)) [.un]
    rw [Int.sub_zero]
  | counted w lo hi =>
    have h : 0 ≤ lo ∧ lo ≤ hi ∧ 1 ≤ hi ∧ hi ≤ 60 := h
    have e : (upto lo (hi + 1 - lo).toNat).length = (hi + 1 - lo).toNat := upto_len _ _
    have hz : (upto lo (hi + 1 - lo).toNat).length ≤ 1000000 := by omega
    wp_walk using Cnt.d
    rw [upto_ints]; rfl
def Cnt.frame : Cnt → Int
  | .exactly _ => 0
  | .marked _ => 1
  | .counted w _ _ => w.sz
def Cnt.mark : Cnt → Int
  | .marked _ => 1
  | _ => 0
theorem Sz.frame (H : Sz P I) (hd : P.dct[I.d_WORD_SIZES]? = some wsD) (hk : 1 < kk) (c : Cnt) : callF P wn kk I.frame_size [.val c.d] = .ok (.val (.int c.frame)) [.un] := by
  obtain ⟨k, rfl⟩ : ∃ k, kk = k + 1 := ⟨kk - 1, by omega⟩
  rw [callF_succ P wn k H.frame_size _ rfl]
  unfold F_frame_size
  simp only [List.length_cons, List.length_nil, List.reduceReplicate, Nat.reduceSub, Nat.reduceAdd, List.cons_append, List.nil_append]
  have e := fun w => H.word_sz (wn := wn) (kk := k) hd (by omega) w
  cases c <;> wp_walk using Cnt.d, Cnt.frame, e
theorem Sz.mark (H : Sz P I) (hk : 0 < kk) (c : Cnt) : callF P wn kk I.mark_size [.val c.d] = .ok (.val (.int c.mark)) [.un] := by
  obtain ⟨k, rfl⟩ : ∃ k, kk = k + 1 := ⟨kk - 1, by omega⟩
  rw [callF_succ P wn k H.mark_size _ rfl]
  unfold F_mark_size
  simp only [List.length_cons, List.length_nil, List.reduceReplicate, Nat.reduceSub, Nat.reduceAdd, List.cons_append, List.nil_append]
  cases c <;> wp_walk using Cnt.d, Cnt.mark
/-- an element's layout -/
def elemOf (w : Wd) (sg : Bool) (rs : Option Rs) (df : Option Int) : List Item := [.word w [⟨some Str.empty, 8 * w.sz, sg, rs, df⟩]]
theorem Sz.elem (H : Sz P I) (hd : P.dct[I.d_WORD_SIZES]? = some wsD) (hk : 1 < kk) (nm : Str) (w : Wd) (sg : Bool) (c : Cnt) (rs : Option Rs) (df : Option Int) : callF P wn kk I.element_layout [.val (Item.arr nm w sg c rs df).d] = .ok (.val (lay (elemOf w sg rs df))) [.un] := by
  obtain ⟨k, rfl⟩ : ∃ k, kk = k + 1 := ⟨kk - 1, by omega⟩
  rw [callF_succ P wn k H.element_layout _ rfl]
  unfold F_element_layout
  simp only [List.length_cons, List.length_nil, List.reduceReplicate, Nat.reduceSub, Nat.reduceAdd, List.cons_append, List.nil_append]
  have e := H.word_sz (wn := wn) (kk := k) hd (by omega) w
  wp_walk using Item.d, e
  rfl
theorem Sz.elem2 (H : Sz P I) (hk : 0 < kk) (nm : Str) (c : Cnt) (its : List Item) : callF P wn kk I.element_layout [.val (Item.lst nm c its).d] = .ok (.val (lay its)) [.un] := by
  obtain ⟨k, rfl⟩ : ∃ k, kk = k + 1 := ⟨kk - 1, by omega⟩
  rw [callF_succ P wn k H.element_layout _ rfl]
  unfold F_element_layout
  simp only [List.length_cons, List.length_nil, List.reduceReplicate, Nat.reduceSub, Nat.reduceAdd, List.cons_append, List.nil_append]
  wp_walk using Item.d
  rw [Item.ds_map]; rfl
theorem Sz.fixed (H : Sz P I) (hd : P.dct[I.d_WORD_SIZES]? = some wsD) (hk : 1 < kk) {i : Item} {L : List Item → Prop} (h : i.ok L) (hf : match i with | .word _ _ => True | .lit _ => True | .res _ => True | .chk _ => True | _ => False) : callF P wn kk I.fixed_size [.val i.d] = .ok (.val (.int i.sz.1)) [.un] := by
  obtain ⟨k, rfl⟩ : ∃ k, kk = k + 1 := ⟨kk - 1, by omega⟩
  rw [callF_succ P wn k H.fixed_size _ rfl]
  unfold F_fixed_size
  simp only [List.length_cons, List.length_nil, List.reduceReplicate, Nat.reduceSub, Nat.reduceAdd, List.cons_append, List.nil_append]
  have e := fun w => H.word_sz (wn := wn) (kk := k) hd (by omega) w
  cases i with
  | word w ps => wp_walk using Item.d, e, Item.sz, Wd.p
  | lit bs => wp_walk using Item.d, Item.sz, List.length_map
  | res n => wp_walk using Item.d, Item.sz
  | chk x => wp_walk using Item.d, Item.sz
  | _ => exact hf.elim
end
end MP

/-! MP: members. -/
namespace MP
open PySem L2
/- fields: 0 item 1 found 2 low 3 part -/
def F_fields (I : Ix) : Fn := ⟨4, [false], [
  .asg 1 (.lst []),
  .asg 2 (.bin .mul (.int 8) (.call I.word_size [.ix (.var 0) (.int 1)])),
  .for_ (.v 3) (.ix (.var 0) (.int 2)) [
    .asg 2 (.bin .sub (.var 2) (.ix (.var 3) (.int 1))),
    .ite (.cmp .isnot (.ix (.var 3) (.int 0)) .non) [
      .ex (.app 1 (.tup [.var 2, .var 3]))] []],
  .ret (.var 1)]⟩
/- slots: 0 layout 1 found 2 item 3  4 part -/
def F_slots (I : Ix) : Fn := ⟨5, [false], [
  .asg 1 (.lst []),
  .for_ (.v 2) (.var 0) [
    .ite (.cmp .eq (.ix (.var 2) (.int 0)) (.str "word")) [
      .ex (.ext 1 (.lc (.tup [.ix (.var 4) (.int 0), .var 2, .var 4]) (.tup [.v 3, .v 4]) (.call I.fields [.var 2]) [] [3, 4]))] [
      .ite (.cmp .in_ (.ix (.var 2) (.int 0)) (.glo I.g_COMPOSITES)) [
        .ex (.app 1 (.tup [.ix (.var 2) (.int 1), .var 2, .non]))] []]],
  .ret (.var 1)]⟩
/- kind_of: 0 slot -/
def F_kind_of (I : Ix) : Fn := ⟨1, [false], [
  .ite (.cmp .isnot (.ix (.var 0) (.int 2)) .non) [
    .ret (.str "integer")] [],
  .ret (.ix (.ix (.var 0) (.int 1)) (.int 0))]⟩
/- members: 0 layout 1 slot -/
def F_members (I : Ix) : Fn := ⟨2, [false], [
  .ret (.bi .tuple [.lc (.tup [.ix (.var 1) (.int 0), .call I.kind_of [.var 1]]) (.v 1) (.call I.slots [.var 0]) [] [1]])]⟩
structure Mb (P : Prg) (I : Ix) : Prop where
  fields : P.fns[I.fields]? = some (F_fields I)
  slots : P.fns[I.slots]? = some (F_slots I)
structure Mbm (P : Prg) (I : Ix) : Prop where
  kind_of : P.fns[I.kind_of]? = some (F_kind_of I)
  members : P.fns[I.members]? = some (F_members I)
theorem Mb.io_fields {P : Prg} {I : Ix} (H : Mb P I) : P.io I.fields = [false] := io_of H.fields
theorem Mb.io_slots {P : Prg} {I : Ix} (H : Mb P I) : P.io I.slots = [false] := io_of H.slots
theorem Mbm.io_kind_of {P : Prg} {I : Ix} (H : Mbm P I) : P.io I.kind_of = [false] := io_of H.kind_of
theorem Mbm.io_members {P : Prg} {I : Ix} (H : Mbm P I) : P.io I.members = [false] := io_of H.members
/- law_kinds: 0 items 1 kinds_here 2 item 3 part_here -/
def F_law_kinds (I : Ix) : Fn := ⟨4, [false], [
  .asg 1 (.lst []),
  .for_ (.v 2) (.var 0) [
    .ite (.cmp .eq (.ix (.var 2) (.int 0)) (.str "word")) [
      .for_ (.v 3) (.ix (.var 2) (.int 2)) [
        .ite (.cmp .isnot (.ix (.var 3) (.int 0)) .non) [
          .ex (.app 1 (.bin .add (.tup [.str "integer"]) (.var 3)))] []]] [
      .ite (.cmp .eq (.ix (.var 2) (.int 0)) (.str "array")) [
        .ex (.app 1 (.tup [.str "array", .ix (.var 2) (.int 1), .ix (.var 2) (.int 4), .bin .mul (.int 8) (.call I.law_size [.ix (.var 2) (.int 2)]), .ix (.var 2) (.int 3), .ix (.var 2) (.int 5), .ix (.var 2) (.int 6)]))] [
        .ite (.cmp .eq (.ix (.var 2) (.int 0)) (.str "choice")) [
          .ex (.app 1 (.tup [.str "choice", .ix (.var 2) (.int 1), .ix (.var 2) (.int 3)]))] [
          .ite (.or (.cmp .eq (.ix (.var 2) (.int 0)) (.str "list")) (.cmp .eq (.ix (.var 2) (.int 0)) (.str "record"))) [
            .ex (.app 1 (.var 2))] []]]]],
  .ret (.var 1)]⟩
structure Kd (P : Prg) (I : Ix) : Prop where
  law_kinds : P.fns[I.law_kinds]? = some (F_law_kinds I)
theorem Kd.io_law_kinds {P : Prg} {I : Ix} (H : Kd P I) : P.io I.law_kinds = [false] := io_of H.law_kinds
/-- the kinds of members that hold others -/
def compD : D := .tup [.str (Str.ofString "array"), .str (Str.ofString "list"), .str (Str.ofString "choice"), .str (Str.ofString "record")]
local macro_rules | `(tactic| wp_walk) => `(tactic| simp -implicitDefEqProofs (disch := first | assumption | omega | (simp only [List.length_cons, List.length_nil, List.length_map, List.length_append]; omega)) only [MP.bnd_ap, MP.bX_ok, MP.thenS_ap, MP.tX_ok, MP.seqS_nx, MP.seqS_rt, MP.seqS_bk, MP.seqS_ct, MP.ret_ap, MP.opt_some, MP.when_true, MP.evB_nil, MP.evB_cons, MP.evS_asg, MP.evS_asgT, MP.evS_aug, MP.evS_setix, MP.evS_par, MP.sets_nil, MP.sets_cons, MP.evS_ex, MP.evS_ite, MP.evS_for, MP.evS_whl, MP.evS_ret, MP.evS_retN, MP.evS_brk, MP.evS_cont, MP.evS_pass, MP.selS_true, MP.selS_false, MP.selM_true, MP.selM_false, MP.slK_ap, MP.itK_ap, MP.tru_ap, MP.fz_ap, MP.var_v, MP.var_t, MP.var_o, MP.var_i, MP.int_v, MP.int_o, MP.str_v, MP.str_o, MP.bl_v, MP.bl_o, MP.bl_t, MP.non_v, MP.non_o, MP.glo_v, MP.glo_o, MP.glo_i, MP.tup_v, MP.tup_o, MP.tup_i, MP.lst_v, MP.lst_o, MP.lst_i, MP.bin_v, MP.bin_o, MP.bin_t, MP.bin_i, MP.negK_int, MP.neg_v, MP.neg_o, MP.not_v, MP.not_t, MP.not_o, MP.isB_bl, MP.and_v, MP.and_t, MP.and_o, MP.or_v, MP.or_t, MP.or_o, MP.cmp_t, MP.cmp_v, MP.cmp_o, MP.cmp2_t, MP.cmp2_v, MP.cmp2_o, MP.ite_v, MP.ite_o, MP.ite_i, MP.kix_v, MP.kix_o, MP.ix_v, MP.ix_o, MP.ix_t, MP.ix_i, MP.sl_v, MP.sl_o, MP.sl_i, MP.rev_v, MP.rev_o, MP.rev_i, MP.revK_t, MP.revK_l, MP.call_v, MP.call_o, MP.call_t, MP.call_i, MP.bi_v, MP.bi_o, MP.bi_t, MP.bi_i, MP.isi_v, MP.isi_o, MP.isi_t, MP.app_v, MP.ext_v, MP.pop_v, MP.pop_o, MP.revm_v, MP.rng_i, MP.dic_v, MP.dic_o, MP.lrng_v, MP.lrng_o, MP.lrng_i, MP.enu_i, MP.lc_v, MP.lc_o, MP.lc_i, MP.evs_nil, MP.evs_cons, MP.vals_nil, MP.vals_cons, MP.opds_nil, MP.opds_cons, MP.rdOs_nil, MP.rdOs_cons, MP.args_nil, MP.args_t, MP.args_f, MP.rdO_at, MP.rdO_sl, MP.d_val, MP.d_own, MP.d_lk, MP.opAt_ap, MP.opAtS_val, MP.opAtS_own, MP.opAtS_lk, MP.cap_ap, MP.capS_some, MP.retV_var, MP.retS_own, MP.retS_val, MP.ownAt_ap, MP.ownS_own, MP.chg_ap, MP.chgS_own, MP.chgO_some, MP.setAt_int, MP.itO_at', MP.itS_own, MP.itS_val, MP.itO_sl', MP.part_nil, MP.part_cons, MP.partK_int, MP.extK_lst, MP.callM_ap, MP.endC_ok, MP.takes_nil, MP.takes_at, MP.takes_sl, MP.backs_at, MP.backs_sl, MP.backs_nil, MP.lent_t, MP.lent_f, MP.lent_n, MP.endF_rt, MP.endF_nx, MP.onFr_nx, MP.onFr_rt, MP.unlk_nil, MP.retV_int, MP.retV_str, MP.retV_bl, MP.retV_non, MP.retV_glo, MP.retV_tup, MP.retV_lst, MP.retV_dic, MP.retV_bin, MP.retV_neg, MP.retV_not, MP.retV_and, MP.retV_or, MP.retV_cmp, MP.retV_cmp2, MP.retV_ite, MP.retV_kix, MP.retV_ix, MP.retV_sl, MP.retV_rev, MP.retV_call, MP.retV_bi, MP.retV_isi, MP.retV_mt, MP.retV_pop, MP.retV_lrng, MP.retV_lc, MP.retV_fs, MP.sl0, MP.sl1, MP.sl2, MP.sl3, MP.sl4, MP.sl5, MP.sl6, MP.sl7, MP.sl8, MP.sl9, MP.sl10, MP.sl11, MP.set0, MP.set1, MP.set2, MP.set3, MP.set4, MP.set5, MP.set6, MP.set7, MP.set8, MP.set9, MP.set10, MP.set11, MP.add_i, MP.sub_i, MP.pow_i, MP.and_i, MP.or_i, MP.xor_i, MP.eq_i, MP.ne_i, MP.lt_i, MP.le_i, MP.gt_i, MP.ge_i, MP.eq_s, MP.ne_s, MP.ix_l, MP.ix_t', MP.len_l, MP.len_t, MP.abs_i, MP.int_i, MP.max_i, MP.min_i, MP.list_l, MP.list_t, MP.list_s, MP.tuple_l, MP.omap_some, MP.obind_some, decide_true, decide_false, MP.tr_bl, MP.isi_ii, MP.isi_ib, MP.turnO_ap, MP.asgT_v, MP.asgT_tup, MP.asgTs_nil, MP.asgTs_cons, MP.forK_ap, MP.lcM_ap, MP.lcStep_ap, MP.wipeF_nil, MP.wipeF_cons, MP.putF_nil, MP.putF_cons, MP.ifsM_nil, MP.ifsM_cons, MP.seqI_l, MP.seqI_t, MP.seqI_s, MP.sEq, MP.atI_0, MP.atI_1, MP.atI_2, MP.atI_3, MP.atI_4, MP.atI_5, MP.atI_6, MP.atI_mapp, MP.atI_m1, MP.sz_if, MP.dlt_t, MP.dlt_f, MP.dle_t, MP.dle_f, MP.beq_t, MP.beq_f, MP.bne_t, MP.bne_f, MP.mul_okr, MP.mul_okl, MP.fdiv_ok, MP.mod_ok, MP.shl1_ok, MP.shl_ok, MP.shr_ok, MP.add_t, MP.add_lo, MP.add_so, MP.app_ok, MP.ext_ok, MP.rng1_ok, MP.rng2_ok, MP.eq_n, MP.ne_n, MP.isN_n, MP.isN_i, MP.isN_s, MP.isN_t, MP.isN_l, MP.isN_b, MP.tr_t, MP.tr_l, MP.tr_i, MP.kix_s, MP.look_c, MP.look_n, MP.ixd, MP.key_i, MP.key_s, MP.dl_c, MP.sum_ii, MP.sum_ss, MP.isi_tt, MP.isi_tl, MP.isi_ts, MP.isi_tb, MP.isi_ti, MP.isi_ll, MP.isi_lt, MP.isi_ss, MP.isi_st, MP.isi_sl, MP.isi_sb, MP.isi_si, MP.isi_is, MP.isi_it, MP.isi_il, MP.isi_bb, MP.isi_bi, MP.isi_bt, MP.isi_blx, MP.isi_nt, MP.isi_nl, MP.isi_nb, MP.isi_ni, MP.isi_ns, MP.eq_b, MP.sl12, MP.sl13, MP.sl14, MP.set12, MP.set13, MP.set14, MP.lc_t, MP.part_mn, MP.part_mc, MP.enuOk_l, MP.enuOk_t, MP.zip_i, MP.zipV_ll, MP.zipV_lt, MP.zipV_tl, MP.zipV_tt, MP.fs_v, MP.fs_o, MP.fsM_n, MP.fsM_c, MP.strOf_s, MP.sl_t, MP.sl_l, MP.mt_v, MP.mt_o, MP.mt_t, MP.mt_i, MP.ty_split, MP.ty_endswith, MP.ty_startswith, MP.ty_join, MP.ty_index, MP.ty_get, MP.csat_ok, MP.tsat_nx, MP.tsat_ct, MP.unlk_c, ↓reduceIte, String.reduceEq, Int.reduceEq, Int.reduceLT, Int.reduceLE, Int.reduceAdd, Int.reduceSub, Int.reduceMul, Int.reduceNeg, Int.reduceToNat, Nat.reduceAdd, Nat.reduceSub, List.length_cons, List.length_nil, Int.one_mul, Bool.not_true, Bool.not_false, Bool.and_true, Bool.true_and, Bool.and_false, Bool.false_and, Bool.or_true, Bool.true_or, Bool.or_false, Bool.false_or, List.isEmpty_cons, List.isEmpty_nil, List.cons_append, List.nil_append, List.append_nil, MP.Mb.io_fields, MP.Mb.io_slots, MP.Mbm.io_kind_of, MP.Mbm.io_members, MP.Kd.io_law_kinds, MP.Wsz.io_word_size, MP.Rich.io_law_tape, MP.Rich.io_law_draw, MP.Rich.io_law_name, MP.Rich.io_law_runs, MP.Rich.io_law_size, MP.Rich.io_law_any_word, MP.Rich.io_law_a_count, MP.Rich.io_law_a_field, MP.Rich.io_law_ranges, MP.Rich.io_law_a_number, MP.Rich.io_law_part, MP.Rich.io_law_case_numbers, MP.Rich.io_law_not_empty, MP.Rich.io_law_rich, MP.Rich.io_law_rich_item, MP.Rich.io_law_fixed, MP.Rich.io_law_rich_word, MP.Rich.io_law_rich_choice])
local macro_rules | `(tactic| wp_walk using $ts:term,*) => `(tactic| simp -implicitDefEqProofs (disch := first | assumption | omega | (simp only [List.length_cons, List.length_nil, List.length_map, List.length_append]; omega)) only [MP.bnd_ap, MP.bX_ok, MP.thenS_ap, MP.tX_ok, MP.seqS_nx, MP.seqS_rt, MP.seqS_bk, MP.seqS_ct, MP.ret_ap, MP.opt_some, MP.when_true, MP.evB_nil, MP.evB_cons, MP.evS_asg, MP.evS_asgT, MP.evS_aug, MP.evS_setix, MP.evS_par, MP.sets_nil, MP.sets_cons, MP.evS_ex, MP.evS_ite, MP.evS_for, MP.evS_whl, MP.evS_ret, MP.evS_retN, MP.evS_brk, MP.evS_cont, MP.evS_pass, MP.selS_true, MP.selS_false, MP.selM_true, MP.selM_false, MP.slK_ap, MP.itK_ap, MP.tru_ap, MP.fz_ap, MP.var_v, MP.var_t, MP.var_o, MP.var_i, MP.int_v, MP.int_o, MP.str_v, MP.str_o, MP.bl_v, MP.bl_o, MP.bl_t, MP.non_v, MP.non_o, MP.glo_v, MP.glo_o, MP.glo_i, MP.tup_v, MP.tup_o, MP.tup_i, MP.lst_v, MP.lst_o, MP.lst_i, MP.bin_v, MP.bin_o, MP.bin_t, MP.bin_i, MP.negK_int, MP.neg_v, MP.neg_o, MP.not_v, MP.not_t, MP.not_o, MP.isB_bl, MP.and_v, MP.and_t, MP.and_o, MP.or_v, MP.or_t, MP.or_o, MP.cmp_t, MP.cmp_v, MP.cmp_o, MP.cmp2_t, MP.cmp2_v, MP.cmp2_o, MP.ite_v, MP.ite_o, MP.ite_i, MP.kix_v, MP.kix_o, MP.ix_v, MP.ix_o, MP.ix_t, MP.ix_i, MP.sl_v, MP.sl_o, MP.sl_i, MP.rev_v, MP.rev_o, MP.rev_i, MP.revK_t, MP.revK_l, MP.call_v, MP.call_o, MP.call_t, MP.call_i, MP.bi_v, MP.bi_o, MP.bi_t, MP.bi_i, MP.isi_v, MP.isi_o, MP.isi_t, MP.app_v, MP.ext_v, MP.pop_v, MP.pop_o, MP.revm_v, MP.rng_i, MP.dic_v, MP.dic_o, MP.lrng_v, MP.lrng_o, MP.lrng_i, MP.enu_i, MP.lc_v, MP.lc_o, MP.lc_i, MP.evs_nil, MP.evs_cons, MP.vals_nil, MP.vals_cons, MP.opds_nil, MP.opds_cons, MP.rdOs_nil, MP.rdOs_cons, MP.args_nil, MP.args_t, MP.args_f, MP.rdO_at, MP.rdO_sl, MP.d_val, MP.d_own, MP.d_lk, MP.opAt_ap, MP.opAtS_val, MP.opAtS_own, MP.opAtS_lk, MP.cap_ap, MP.capS_some, MP.retV_var, MP.retS_own, MP.retS_val, MP.ownAt_ap, MP.ownS_own, MP.chg_ap, MP.chgS_own, MP.chgO_some, MP.setAt_int, MP.itO_at', MP.itS_own, MP.itS_val, MP.itO_sl', MP.part_nil, MP.part_cons, MP.partK_int, MP.extK_lst, MP.callM_ap, MP.endC_ok, MP.takes_nil, MP.takes_at, MP.takes_sl, MP.backs_at, MP.backs_sl, MP.backs_nil, MP.lent_t, MP.lent_f, MP.lent_n, MP.endF_rt, MP.endF_nx, MP.onFr_nx, MP.onFr_rt, MP.unlk_nil, MP.retV_int, MP.retV_str, MP.retV_bl, MP.retV_non, MP.retV_glo, MP.retV_tup, MP.retV_lst, MP.retV_dic, MP.retV_bin, MP.retV_neg, MP.retV_not, MP.retV_and, MP.retV_or, MP.retV_cmp, MP.retV_cmp2, MP.retV_ite, MP.retV_kix, MP.retV_ix, MP.retV_sl, MP.retV_rev, MP.retV_call, MP.retV_bi, MP.retV_isi, MP.retV_mt, MP.retV_pop, MP.retV_lrng, MP.retV_lc, MP.retV_fs, MP.sl0, MP.sl1, MP.sl2, MP.sl3, MP.sl4, MP.sl5, MP.sl6, MP.sl7, MP.sl8, MP.sl9, MP.sl10, MP.sl11, MP.set0, MP.set1, MP.set2, MP.set3, MP.set4, MP.set5, MP.set6, MP.set7, MP.set8, MP.set9, MP.set10, MP.set11, MP.add_i, MP.sub_i, MP.pow_i, MP.and_i, MP.or_i, MP.xor_i, MP.eq_i, MP.ne_i, MP.lt_i, MP.le_i, MP.gt_i, MP.ge_i, MP.eq_s, MP.ne_s, MP.ix_l, MP.ix_t', MP.len_l, MP.len_t, MP.abs_i, MP.int_i, MP.max_i, MP.min_i, MP.list_l, MP.list_t, MP.list_s, MP.tuple_l, MP.omap_some, MP.obind_some, decide_true, decide_false, MP.tr_bl, MP.isi_ii, MP.isi_ib, MP.turnO_ap, MP.asgT_v, MP.asgT_tup, MP.asgTs_nil, MP.asgTs_cons, MP.forK_ap, MP.lcM_ap, MP.lcStep_ap, MP.wipeF_nil, MP.wipeF_cons, MP.putF_nil, MP.putF_cons, MP.ifsM_nil, MP.ifsM_cons, MP.seqI_l, MP.seqI_t, MP.seqI_s, MP.sEq, MP.atI_0, MP.atI_1, MP.atI_2, MP.atI_3, MP.atI_4, MP.atI_5, MP.atI_6, MP.atI_mapp, MP.atI_m1, MP.sz_if, MP.dlt_t, MP.dlt_f, MP.dle_t, MP.dle_f, MP.beq_t, MP.beq_f, MP.bne_t, MP.bne_f, MP.mul_okr, MP.mul_okl, MP.fdiv_ok, MP.mod_ok, MP.shl1_ok, MP.shl_ok, MP.shr_ok, MP.add_t, MP.add_lo, MP.add_so, MP.app_ok, MP.ext_ok, MP.rng1_ok, MP.rng2_ok, MP.eq_n, MP.ne_n, MP.isN_n, MP.isN_i, MP.isN_s, MP.isN_t, MP.isN_l, MP.isN_b, MP.tr_t, MP.tr_l, MP.tr_i, MP.kix_s, MP.look_c, MP.look_n, MP.ixd, MP.key_i, MP.key_s, MP.dl_c, MP.sum_ii, MP.sum_ss, MP.isi_tt, MP.isi_tl, MP.isi_ts, MP.isi_tb, MP.isi_ti, MP.isi_ll, MP.isi_lt, MP.isi_ss, MP.isi_st, MP.isi_sl, MP.isi_sb, MP.isi_si, MP.isi_is, MP.isi_it, MP.isi_il, MP.isi_bb, MP.isi_bi, MP.isi_bt, MP.isi_blx, MP.isi_nt, MP.isi_nl, MP.isi_nb, MP.isi_ni, MP.isi_ns, MP.eq_b, MP.sl12, MP.sl13, MP.sl14, MP.set12, MP.set13, MP.set14, MP.lc_t, MP.part_mn, MP.part_mc, MP.enuOk_l, MP.enuOk_t, MP.zip_i, MP.zipV_ll, MP.zipV_lt, MP.zipV_tl, MP.zipV_tt, MP.fs_v, MP.fs_o, MP.fsM_n, MP.fsM_c, MP.strOf_s, MP.sl_t, MP.sl_l, MP.mt_v, MP.mt_o, MP.mt_t, MP.mt_i, MP.ty_split, MP.ty_endswith, MP.ty_startswith, MP.ty_join, MP.ty_index, MP.ty_get, MP.csat_ok, MP.tsat_nx, MP.tsat_ct, MP.unlk_c, ↓reduceIte, String.reduceEq, Int.reduceEq, Int.reduceLT, Int.reduceLE, Int.reduceAdd, Int.reduceSub, Int.reduceMul, Int.reduceNeg, Int.reduceToNat, Nat.reduceAdd, Nat.reduceSub, List.length_cons, List.length_nil, Int.one_mul, Bool.not_true, Bool.not_false, Bool.and_true, Bool.true_and, Bool.and_false, Bool.false_and, Bool.or_true, Bool.true_or, Bool.or_false, Bool.false_or, List.isEmpty_cons, List.isEmpty_nil, List.cons_append, List.nil_append, List.append_nil, MP.Mb.io_fields, MP.Mb.io_slots, MP.Mbm.io_kind_of, MP.Mbm.io_members, MP.Kd.io_law_kinds, MP.Wsz.io_word_size, MP.Rich.io_law_tape, MP.Rich.io_law_draw, MP.Rich.io_law_name, MP.Rich.io_law_runs, MP.Rich.io_law_size, MP.Rich.io_law_any_word, MP.Rich.io_law_a_count, MP.Rich.io_law_a_field, MP.Rich.io_law_ranges, MP.Rich.io_law_a_number, MP.Rich.io_law_part, MP.Rich.io_law_case_numbers, MP.Rich.io_law_not_empty, MP.Rich.io_law_rich, MP.Rich.io_law_rich_item, MP.Rich.io_law_fixed, MP.Rich.io_law_rich_word, MP.Rich.io_law_rich_choice, $[$ts:term],*])
theorem in4 (x : Str) : cmpop .in_ (.str x) compD = some ([S' "array", S' "list", S' "choice", S' "record"].any fun y => decide (y = x)) := inS_t x [S' "array", S' "list", S' "choice", S' "record"]
/-- a member: an integer (the part of a word, its lowest bit), another item -/
inductive Mbr where
  | int (low : Int) (p : Part) (it : Item)
  | com (nm : Str) (kind : String) (it : Item)
def fieldsV (it : Item) : Int → List Part → List Mbr
  | _, [] => []
  | low, p :: r => (if p.nm.isSome then [.int (low - p.w) p it] else []) ++ fieldsV it (low - p.w) r
def Mbr.fD : Mbr → D
  | .int low p _ => .tup [.int low, p.d]
  | .com _ _ _ => .non
def Mbr.nmD : Mbr → D
  | .int _ p _ => oD .str p.nm
  | .com nm _ _ => .str nm
def Mbr.kind : Mbr → String
  | .int _ _ _ => "integer"
  | .com _ k _ => k
/-- a slot of the program -/
def Mbr.d : Mbr → D
  | .int low p it => .tup [oD .str p.nm, it.d, p.d]
  | .com nm _ it => .tup [.str nm, it.d, .non]
def Mbr.nk (m : Mbr) : D := .tup [m.nmD, .str (Str.ofString m.kind)]
def Item.mbrs (i : Item) : List Mbr := match i with
  | .word w ps => fieldsV (.word w ps) (8 * w.sz) ps
  | .arr nm _ _ _ _ _ => [.com nm "array" i]
  | .lst nm _ _ => [.com nm "list" i]
  | .cho nm _ _ => [.com nm "choice" i]
  | .rcd nm _ => [.com nm "record" i]
  | _ => []
def mbrs (its : List Item) : List Mbr := its.flatMap Item.mbrs
theorem fieldsV_snoc (it : Item) (p : Part) : ∀ (ps : List Part) (low : Int), fieldsV it low (ps ++ [p]) = fieldsV it low ps ++ (if p.nm.isSome then [.int (low - wsum ps - p.w) p it] else [])
  | [], low => by
    show (if p.nm.isSome then [Mbr.int (low - p.w) p it] else []) ++ [] = [] ++ (if p.nm.isSome then [Mbr.int (low - 0 - p.w) p it] else [])
    rw [List.append_nil, List.nil_append, Int.sub_zero]
  | q :: ps, low => by
    rw [List.cons_append, fieldsV, fieldsV, fieldsV_snoc it p ps, List.append_assoc]
    have e : wsum (q :: ps) = q.w + wsum ps := by unfold wsum; simp
    rw [e, show low - q.w - wsum ps - p.w = low - (q.w + wsum ps) - p.w by omega]
theorem fieldsV_len (it : Item) : ∀ (ps : List Part) (low : Int), (fieldsV it low ps).length ≤ ps.length
  | [], _ => Nat.le_refl _
  | p :: r, low => by
    rw [fieldsV, List.length_append, List.length_cons]
    have := fieldsV_len it r (low - p.w)
    split <;> simp <;> omega
theorem fieldsV_int (it : Item) : ∀ (ps : List Part) (low : Int), ∀ m ∈ fieldsV it low ps, ∃ l p, m = .int l p it ∧ p.nm.isSome ∧ p ∈ ps
  | [], _, m, h => by cases h
  | p :: r, low, m, h => by
    rw [fieldsV] at h
    rcases List.mem_append.mp h with h | h
    · split at h
      · rename_i c
        rw [List.mem_singleton.mp h]; exact ⟨_, p, rfl, c, List.mem_cons_self⟩
      · cases h
    · obtain ⟨l, q, e, h1, h2⟩ := fieldsV_int it r _ m h
      exact ⟨l, q, e, h1, List.mem_cons_of_mem _ h2⟩
theorem mbrs_len1 {i : Item} {L : List Item → Prop} (h : i.ok L) : i.mbrs.length ≤ 32 := by
  cases i with
  | word w ps => have := fieldsV_len (.word w ps) ps (8 * w.sz); have := h.1; show (fieldsV _ _ ps).length ≤ 32; omega
  | _ => simp [Item.mbrs]
theorem mbrs_snoc (its : List Item) (i : Item) : mbrs (its ++ [i]) = mbrs its ++ i.mbrs := by unfold mbrs; simp
theorem mbrs_app (a b : List Item) : mbrs (a ++ b) = mbrs a ++ mbrs b := by unfold mbrs; simp
theorem slice_t (xs : List D) (lo hi : Option Int) : slice (.tup xs) lo hi = some (.val (.tup (cutD xs lo hi))) := rfl
theorem cut_to {α : Type} (xs : List α) {c : Int} (h0 : 0 ≤ c) : cutD xs none (some c) = xs.take c.toNat := by
  unfold cutD
  show (xs.drop 0).take ((if c < 0 then _ else min c.toNat xs.length) - 0) = _
  rw [if_neg (by omega), List.drop_zero, Nat.sub_zero]
  by_cases h : c.toNat ≤ xs.length
  · rw [Nat.min_eq_left h]
  · rw [Nat.min_eq_right (by omega), List.take_of_length_le (Nat.le_refl _), List.take_of_length_le (by omega)]
theorem cut_from {α : Type} (xs : List α) {c : Int} (h0 : 0 ≤ c) : cutD xs (some c) none = xs.drop c.toNat := by
  unfold cutD
  show (xs.drop (if c < 0 then _ else min c.toNat xs.length)).take (xs.length - (if c < 0 then _ else min c.toNat xs.length)) = _
  rw [if_neg (by omega)]
  by_cases h : c.toNat ≤ xs.length
  · rw [Nat.min_eq_left h, List.take_of_length_le (by rw [List.length_drop]; omega)]
  · rw [Nat.min_eq_right (by omega), List.drop_of_length_le (by omega : xs.length ≤ c.toNat), List.drop_length]; simp
section
variable {P : Prg} {I : Ix} {wn kk : Nat}
theorem Mb.fields_ok (H : Mb P I) (S : Wsz P I) (hd : P.dct[I.d_WORD_SIZES]? = some wsD) (hk : 1 < kk) (w : Wd) (ps : List Part) (hl : ps.length ≤ 32) :
    callF P wn kk I.fields [.val (Item.word w ps).d] = .ok (.own ((Item.word w ps).mbrs.map Mbr.fD)) [.un] := by
  suffices h : CSat (callF P wn kk I.fields [.val (Item.word w ps).d]) fun s ps' => s = .own ((Item.word w ps).mbrs.map Mbr.fD) ∧ ps' = [.un] by
    obtain ⟨s, ps, e, rfl, rfl⟩ := h.get; exact e
  obtain ⟨k, rfl⟩ : ∃ k, kk = k + 1 := ⟨kk - 1, by omega⟩
  rw [callF_succ P wn k H.fields _ rfl]
  unfold F_fields
  simp only [List.length_cons, List.length_nil, List.reduceReplicate, Nat.reduceSub, Nat.reduceAdd, List.cons_append, List.nil_append]
  have e := S.word_sz (wn := wn) (kk := k) hd (by omega) w
  have hS : seqI (D.tup (ps.map Part.d)) = some (ps.map Part.d) := rfl
  wp_walk using Item.d, e, hS
  refine for_t (G := fun z => CSat (endF _ (qX _ (onFr _ z))) _) (fun j fr => ∃ y : Slot, fr = [.val (.tup [.str (Str.ofString "word"), .str w.str, .tup (ps.map Part.d)]), .own ((fieldsV (.word w ps) (8 * w.sz) (ps.take j)).map Mbr.fD), .val (.int (8 * w.sz - wsum (ps.take j))), y])
    ⟨_, by rw [List.take_zero]; show _ = [_, Slot.own [], Slot.val (.int (8 * w.sz - 0)), _]; rw [Int.sub_zero]⟩ ?_ ?_
  · rintro j d fr hj ⟨y, rfl⟩
    obtain ⟨p, hp, rfl⟩ := map_ix hj
    rw [take_snoc hp, fieldsV_snoc]
    have hl2 := fieldsV_len (.word w ps) (ps.take j) (8 * w.sz)
    rw [List.length_take] at hl2
    have ew : wsum (ps.take j ++ [p]) = wsum (ps.take j) + p.w := by unfold wsum; simp
    rw [ew]
    generalize fieldsV (.word w ps) (8 * w.sz) (ps.take j) = l at *
    generalize wsum (ps.take j) = W at *
    have i0 : index p.d (.int 0) = some (.val (oD .str p.nm)) := rfl
    have i1 : index p.d (.int 1) = some (.val (.int p.w)) := rfl
    cases hn : p.nm with
    | none =>
      rw [hn] at i0
      wp_walk using i0, i1, oD_n
      exact ⟨_, by rw [show 8 * w.sz - (W + p.w) = 8 * w.sz - W - p.w by omega]; rw [if_neg (by decide), List.append_nil]⟩
    | some x =>
      rw [hn] at i0
      wp_walk using i0, i1, oD_s
      exact ⟨_, by rw [show 8 * w.sz - (W + p.w) = 8 * w.sz - W - p.w by omega, List.map_append]; rfl⟩
  · rintro fr ⟨y, rfl⟩
    rw [List.length_map, List.take_length]
    wp_walk
    trivial
/-- what slots needs -/
def SlP (its : List Item) : Prop := its.length ≤ 10 ∧ ∀ i ∈ its, i.mbrs.length ≤ 32 ∧ ∀ w ps, i = .word w ps → ps.length ≤ 32
theorem Lay.slp {n : Nat} {its : List Item} (h : Lay n its) : SlP its := ⟨h.len, fun i hi => ⟨mbrs_len1 (h.all i hi), fun w ps e => by
  have := h.all i hi
  rw [e] at this; exact this.1⟩⟩
theorem Mb.slots_core (H : Mb P I) (S : Wsz P I) (hd : P.dct[I.d_WORD_SIZES]? = some wsD) (hg : P.glo[I.g_COMPOSITES]? = some compD) (hk : 2 < kk) {its : List Item} (hL : SlP its) :
    callF P wn kk I.slots [.val (lay its)] = .ok (.own ((mbrs its).map Mbr.d)) [.un] := by
  suffices h : CSat (callF P wn kk I.slots [.val (lay its)]) fun s ps' => s = .own ((mbrs its).map Mbr.d) ∧ ps' = [.un] by
    obtain ⟨s, ps, e, rfl, rfl⟩ := h.get; exact e
  obtain ⟨k, rfl⟩ : ∃ k, kk = k + 1 := ⟨kk - 1, by omega⟩
  rw [callF_succ P wn k H.slots _ rfl]
  unfold F_slots
  simp only [List.length_cons, List.length_nil, List.reduceReplicate, Nat.reduceSub, Nat.reduceAdd, List.cons_append, List.nil_append]
  have hS : seqI (lay its) = some (its.map Item.d) := rfl
  have hlen := hL.1
  have fl := fun w ps hl => H.fields_ok (wn := wn) (kk := k) S hd (by omega) w ps hl
  wp_walk using hS
  refine for_t (G := fun z => CSat (endF _ (qX _ (onFr _ z))) _) (fun j fr => ∃ y : Slot, (mbrs (its.take j)).length ≤ 32 * j ∧ fr = [.val (lay its), .own ((mbrs (its.take j)).map Mbr.d), y, .un, .un])
    ⟨_, by simp [mbrs], by rw [List.take_zero]; rfl⟩ ?_ ?_
  · rintro j d fr hj ⟨y, hl, rfl⟩
    obtain ⟨i, hi, rfl⟩ := map_ix hj
    have hj2 : j < its.length := (List.getElem?_eq_some_iff.mp hi).1
    have hok := hL.2 i (List.mem_of_getElem? hi)
    rw [take_snoc hi, mbrs_snoc]
    have hl1 := hok.1
    generalize mbrs (its.take j) = l at *
    have hl3 : (l ++ i.mbrs).length ≤ 32 * (j + 1) := by rw [List.length_append]; omega
    have hz : (l.map Mbr.d).length < 1000000 := by rw [List.length_map]; omega
    cases i with
    | word w ps =>
      have e := fl w ps (hok.2 w ps rfl)
      have io := H.io_fields
      have e1 := lc_map (Item.word w ps).mbrs Mbr.fD Mbr.d (own := [3, 4]) (tgt := asgT (.tup [.v 3, .v 4])) (ifs := ifsM []) (el := bnd (fz (ev P (callF P wn k) (.tup [.ix (.var 4) (.int 0), .var 2, .var 4])).v) fun d => ret [d])
        (fr := [.val (lay its), .own (l.map Mbr.d), .val (Item.word w ps).d, .un, .un]) (lk := []) (fun m h => by
          obtain ⟨lo, p, rfl, h1, h2⟩ := fieldsV_int _ _ _ m h
          have i0 : index p.d (.int 0) = some (.val (oD .str p.nm)) := rfl
          wp_walk using Mbr.fD, i0
          exact ⟨_, rfl, rfl⟩) (by omega)
      have hz2 : (l.map Mbr.d).length + ((Item.word w ps).mbrs.map Mbr.d).length ≤ 1000000 := by rw [List.length_map, List.length_map]; omega
      have i0 : index (Item.word w ps).d (.int 0) = some (.val (.str (Str.ofString "word"))) := rfl
      wp_walk using i0, e, e1, extK_lst
      exact ⟨_, hl3, by rw [List.map_append]⟩
    | lit bs =>
      have e0 : (Item.lit bs).mbrs = [] := rfl
      rw [e0, List.append_nil] at hl3 ⊢
      wp_walk using Item.d, hg, in4, List.any_cons, List.any_nil
      exact ⟨_, hl3, rfl⟩
    | res m =>
      have e0 : (Item.res m).mbrs = [] := rfl
      rw [e0, List.append_nil] at hl3 ⊢
      wp_walk using Item.d, hg, in4, List.any_cons, List.any_nil
      exact ⟨_, hl3, rfl⟩
    | chk x =>
      have e0 : (Item.chk x).mbrs = [] := rfl
      rw [e0, List.append_nil] at hl3 ⊢
      wp_walk using Item.d, hg, in4, List.any_cons, List.any_nil
      exact ⟨_, hl3, rfl⟩
    | arr nm w sg c rs df =>
      wp_walk using Item.d, hg, in4, List.any_cons, List.any_nil
      exact ⟨_, hl3, by rw [List.map_append]; rfl⟩
    | lst nm c its' =>
      wp_walk using Item.d, hg, in4, List.any_cons, List.any_nil
      exact ⟨_, hl3, by rw [List.map_append]; rfl⟩
    | cho nm w cs =>
      wp_walk using Item.d, hg, in4, List.any_cons, List.any_nil
      exact ⟨_, hl3, by rw [List.map_append]; rfl⟩
    | rcd nm its' =>
      wp_walk using Item.d, hg, in4, List.any_cons, List.any_nil
      exact ⟨_, hl3, by rw [List.map_append]; rfl⟩
  · rintro fr ⟨y, hl, rfl⟩
    rw [List.length_map, List.take_length]
    wp_walk
    trivial
theorem Mb.slots_ok (H : Mb P I) (S : Wsz P I) (hd : P.dct[I.d_WORD_SIZES]? = some wsD) (hg : P.glo[I.g_COMPOSITES]? = some compD) (hk : 2 < kk) {n : Nat} {its : List Item} (hL : Lay n its) :
    callF P wn kk I.slots [.val (lay its)] = .ok (.own ((mbrs its).map Mbr.d)) [.un] := H.slots_core S hd hg hk hL.slp
/-- what holds of every member -/
theorem mbr_of {n : Nat} {its : List Item} (hL : Lay n its) : its.length ≤ 10 ∧ (mbrs its).length ≤ 320 ∧ ∀ m ∈ mbrs its, (∃ l p it, m = .int l p it ∧ ∃ x, p.nm = some x) ∨ (∃ nm it, (m = .com nm "array" it ∧ ∃ w sg c rs df, it = .arr nm w sg c rs df) ∨ (m = .com nm "list" it ∧ ∃ c its', it = .lst nm c its') ∨ (m = .com nm "choice" it ∧ ∃ w cs, it = .cho nm w cs) ∨ (m = .com nm "record" it ∧ ∃ its', it = .rcd nm its')) := by
  refine ⟨hL.len, ?_, fun m hm => ?_⟩
  · have h1 := hL.len
    have h2 := hL.all
    have key : ∀ l : List Item, (∀ i ∈ l, i.mbrs.length ≤ 32) → (mbrs l).length ≤ 32 * l.length := fun l => by
      induction l with
      | nil => intro _; simp [mbrs]
      | cons a r ih =>
        intro h
        have := ih fun i hi => h i (List.mem_cons_of_mem _ hi)
        have h3 := h a List.mem_cons_self
        have e : mbrs (a :: r) = a.mbrs ++ mbrs r := by unfold mbrs; simp
        rw [e, List.length_append, List.length_cons]; omega
    have := key its fun i hi => mbrs_len1 (h2 i hi)
    omega
  · unfold mbrs at hm
    obtain ⟨i, hi, hm⟩ := List.mem_flatMap.mp hm
    cases i with
    | word w ps =>
      obtain ⟨l, p, rfl, h1, _⟩ := fieldsV_int _ _ _ m hm
      exact .inl ⟨l, p, _, rfl, Option.isSome_iff_exists.mp h1⟩
    | arr nm w sg c rs df => exact .inr ⟨nm, _, .inl ⟨List.mem_singleton.mp hm, _, _, _, _, _, rfl⟩⟩
    | lst nm c its' => exact .inr ⟨nm, _, .inr (.inl ⟨List.mem_singleton.mp hm, _, _, rfl⟩)⟩
    | cho nm w cs => exact .inr ⟨nm, _, .inr (.inr (.inl ⟨List.mem_singleton.mp hm, _, _, rfl⟩))⟩
    | rcd nm its' => exact .inr ⟨nm, _, .inr (.inr (.inr ⟨List.mem_singleton.mp hm, _, rfl⟩))⟩
    | _ => cases hm
def memD (its : List Item) : D := .tup ((mbrs its).map Mbr.nk)
theorem Mbm.kind_ok (H : Mbm P I) (hk : 0 < kk) {n : Nat} {its : List Item} (hL : Lay n its) {m : Mbr} (hm : m ∈ mbrs its) : callF P wn kk I.kind_of [.val m.d] = .ok (.val (.str (Str.ofString m.kind))) [.un] := by
  obtain ⟨k, rfl⟩ : ∃ k, kk = k + 1 := ⟨kk - 1, by omega⟩
  rw [callF_succ P wn k H.kind_of _ rfl]
  unfold F_kind_of
  simp only [List.length_cons, List.length_nil, List.reduceReplicate, Nat.reduceSub, Nat.reduceAdd, List.cons_append, List.nil_append]
  rcases (mbr_of hL).2.2 m hm with ⟨l, p, it, rfl, x, hx⟩ | ⟨nm, it, ⟨rfl, w, sg, c, rs, df, rfl⟩ | ⟨rfl, c, its', rfl⟩ | ⟨rfl, w, cs, rfl⟩ | ⟨rfl, its', rfl⟩⟩
  · wp_walk using Mbr.d, Part.d; rfl
  · wp_walk using Mbr.d, Item.d; rfl
  · wp_walk using Mbr.d, Item.d; rfl
  · wp_walk using Mbr.d, Item.d; rfl
  · wp_walk using Mbr.d, Item.d; rfl
theorem Mbm.members_ok (H : Mbm P I) (G : Mb P I) (S : Wsz P I) (hd : P.dct[I.d_WORD_SIZES]? = some wsD) (hg : P.glo[I.g_COMPOSITES]? = some compD) (hk : 3 < kk) {n : Nat} {its : List Item} (hL : Lay n its) :
    callF P wn kk I.members [.val (lay its)] = .ok (.val (memD its)) [.un] := by
  obtain ⟨k, rfl⟩ : ∃ k, kk = k + 1 := ⟨kk - 1, by omega⟩
  rw [callF_succ P wn k H.members _ rfl]
  unfold F_members
  simp only [List.length_cons, List.length_nil, List.reduceReplicate, Nat.reduceSub, Nat.reduceAdd, List.cons_append, List.nil_append]
  have e := G.slots_ok (wn := wn) (kk := k) S hd hg (by omega) hL
  have io := H.io_kind_of
  have hl := (mbr_of hL).2.1
  have e1 := lc_map (mbrs its) Mbr.d Mbr.nk (own := [1]) (tgt := asgT (.v 1)) (ifs := ifsM []) (el := bnd (fz (ev P (callF P wn k) (.tup [.ix (.var 1) (.int 0), .call I.kind_of [.var 1]])).v) fun d => ret [d])
    (fr := [.val (lay its), .un]) (lk := []) (fun m h => by
      have e := H.kind_ok (wn := wn) (kk := k) (by omega) hL h
      have i0 : index m.d (.int 0) = some (.val m.nmD) := by cases m <;> rfl
      wp_walk using i0, e
      exact ⟨_, rfl, rfl⟩) (by omega)
  wp_walk using e, e1
  rfl
/-- the law's own members -/
def Mbr.kd : Mbr → D
  | .int _ p _ => .tup [.str (Str.ofString "integer"), oD .str p.nm, .int p.w, .bl p.sg, rsD p.rs, oD .int p.df]
  | .com _ _ it => match it with
    | .arr nm w sg c rs df => .tup [.str (Str.ofString "array"), .str nm, c.d, .int (8 * w.sz), .bl sg, rsD rs, oD .int df]
    | .cho nm _ cs => .tup [.str (Str.ofString "choice"), .str nm, .tup (Case.ds cs)]
    | it => it.d
theorem Kd.kinds_ok (H : Kd P I) (R : Rich P I) (hk : 1 < kk) {n : Nat} {its : List Item} (hL : Lay n its) : callF P wn kk I.law_kinds [.val (lay its)] = .ok (.own ((mbrs its).map Mbr.kd)) [.un] := by
  suffices h : CSat (callF P wn kk I.law_kinds [.val (lay its)]) fun s ps' => s = .own ((mbrs its).map Mbr.kd) ∧ ps' = [.un] by
    obtain ⟨s, ps, e, rfl, rfl⟩ := h.get; exact e
  obtain ⟨k, rfl⟩ : ∃ k, kk = k + 1 := ⟨kk - 1, by omega⟩
  rw [callF_succ P wn k H.law_kinds _ rfl]
  unfold F_law_kinds
  simp only [List.length_cons, List.length_nil, List.reduceReplicate, Nat.reduceSub, Nat.reduceAdd, List.cons_append, List.nil_append]
  have hS : seqI (lay its) = some (its.map Item.d) := rfl
  have hlen := hL.len
  have sz := fun w => R.size (wn := wn) (kk := k) (by omega) w
  wp_walk using hS
  refine for_t (G := fun z => CSat (endF _ (qX _ (onFr _ z))) _) (fun j fr => ∃ y y3 : Slot, (mbrs (its.take j)).length ≤ 32 * j ∧ fr = [.val (lay its), .own ((mbrs (its.take j)).map Mbr.kd), y, y3])
    ⟨_, _, by simp [mbrs], by rw [List.take_zero]; rfl⟩ ?_ ?_
  · rintro j d fr hj ⟨y, y3, hl, rfl⟩
    obtain ⟨i, hi, rfl⟩ := map_ix hj
    have hj2 : j < its.length := (List.getElem?_eq_some_iff.mp hi).1
    have hok := hL.all i (List.mem_of_getElem? hi)
    rw [take_snoc hi, mbrs_snoc]
    have hl1 := mbrs_len1 hok
    generalize mbrs (its.take j) = l at *
    have hl3 : (l ++ i.mbrs).length ≤ 32 * (j + 1) := by rw [List.length_append]; omega
    have hz : (l.map Mbr.kd).length < 1000000 := by rw [List.length_map]; omega
    cases i with
    | word w ps =>
      have hps := hok.1
      have hS : seqI (D.tup (ps.map Part.d)) = some (ps.map Part.d) := rfl
      wp_walk using Item.d, hS
      refine for_t (G := fun z => TSat (qX _ (qX _ (onFr _ z))) _) (fun j2 fr => ∃ y3 : Slot, fr = [.val (lay its), .own ((l ++ fieldsV (.word w ps) (8 * w.sz) (ps.take j2)).map Mbr.kd), .val (.tup [.str (Str.ofString "word"), .str w.str, .tup (ps.map Part.d)]), y3])
        ⟨_, by rw [List.take_zero]; show _ = [_, Slot.own ((l ++ []).map Mbr.kd), _, _]; rw [List.append_nil]⟩ ?_ ?_
      · rintro j2 d fr hj3 ⟨y3, rfl⟩
        obtain ⟨p, hp, rfl⟩ := map_ix hj3
        rw [take_snoc hp, fieldsV_snoc]
        have hl2 := fieldsV_len (.word w ps) (ps.take j2) (8 * w.sz)
        rw [List.length_take] at hl2
        generalize fieldsV (.word w ps) (8 * w.sz) (ps.take j2) = q at *
        have hz3 : ((l ++ q).map Mbr.kd).length < 1000000 := by rw [List.length_map, List.length_append]; omega
        cases hn : p.nm with
        | none =>
          wp_walk using Part.d, hn, oD_n
          exact ⟨_, by rw [if_neg (by decide), List.append_nil]⟩
        | some x =>
          wp_walk using Part.d, hn, oD_s
          exact ⟨_, by rw [← List.append_assoc, List.map_append (l₁ := l ++ q)]; show _ = [_, Slot.own (_ ++ [D.tup [_, oD .str p.nm, _, _, _, _]]), _, _]; rw [hn]; rfl⟩
      · rintro fr ⟨y3, rfl⟩
        rw [List.length_map, List.take_length]
        wp_walk
        exact ⟨_, _, hl3, rfl⟩
    | lit bs =>
      have e0 : (Item.lit bs).mbrs = [] := rfl
      rw [e0, List.append_nil] at hl3 ⊢
      wp_walk using Item.d
      exact ⟨_, _, hl3, rfl⟩
    | res m =>
      have e0 : (Item.res m).mbrs = [] := rfl
      rw [e0, List.append_nil] at hl3 ⊢
      wp_walk using Item.d
      exact ⟨_, _, hl3, rfl⟩
    | chk x =>
      have e0 : (Item.chk x).mbrs = [] := rfl
      rw [e0, List.append_nil] at hl3 ⊢
      wp_walk using Item.d
      exact ⟨_, _, hl3, rfl⟩
    | arr nm w sg c rs df =>
      wp_walk using Item.d, sz
      exact ⟨_, _, hl3, by rw [List.map_append]; rfl⟩
    | lst nm c its' =>
      wp_walk using Item.d
      exact ⟨_, _, hl3, by rw [List.map_append]; rfl⟩
    | cho nm w cs =>
      wp_walk using Item.d
      exact ⟨_, _, hl3, by rw [List.map_append]; rfl⟩
    | rcd nm its' =>
      wp_walk using Item.d
      exact ⟨_, _, hl3, by rw [List.map_append]; rfl⟩
  · rintro fr ⟨y, y3, hl, rfl⟩
    rw [List.length_map, List.take_length]
    wp_walk
    trivial
theorem kd_ix {n : Nat} {its : List Item} (hL : Lay n its) {m : Mbr} (hm : m ∈ mbrs its) : index m.kd (.int 1) = some (.val m.nmD) ∧ index m.kd (.int 0) = some (.val (.str (Str.ofString m.kind))) := by
  rcases (mbr_of hL).2.2 m hm with ⟨l, p, it, rfl, x, hx⟩ | ⟨nm, it, ⟨rfl, w, sg, c, rs, df, rfl⟩ | ⟨rfl, c, its', rfl⟩ | ⟨rfl, w, cs, rfl⟩ | ⟨rfl, its', rfl⟩⟩ <;> exact ⟨rfl, rfl⟩
theorem memD_pl {n : Nat} {its : List Item} (hL : Lay n its) : Pl 2 (memD its) := by
  refine ⟨by rw [List.length_map]; have := (mbr_of hL).2.1; omega, fun x hx => ?_⟩
  obtain ⟨m, hm, rfl⟩ := List.mem_map.mp hx
  refine ⟨show 2 ≤ 100000 by decide, fun y hy => ?_⟩
  simp only [List.mem_cons, List.not_mem_nil, or_false] at hy
  rcases hy with rfl | rfl
  · rcases (mbr_of hL).2.2 m hm with ⟨l, p, it, rfl, x, hx⟩ | ⟨nm, it, ⟨rfl, h⟩ | ⟨rfl, h⟩ | ⟨rfl, h⟩ | ⟨rfl, h⟩⟩
    · show Pl 0 (oD .str p.nm)
      rw [hx]; trivial
    all_goals trivial
  · trivial
theorem Lay.take {n : Nat} {its : List Item} (h : Lay n its) (c : Nat) : Lay n (its.take c) := lay_of (by rw [List.length_take]; have := h.len; omega) fun i hi => h.all i (List.mem_of_mem_take hi)
theorem Lay.drop {n : Nat} {its : List Item} (h : Lay n its) (c : Nat) : Lay n (its.drop c) := lay_of (by rw [List.length_drop]; have := h.len; omega) fun i hi => h.all i (List.mem_of_mem_drop hi)
end
end MP

/-! MP: rows of a layout. -/
namespace MP
open PySem L2
/- law_a_row: 0 tape_here 1 items 2 row 3 item 4 part_here 5 case 6 ends 7 many 8 things 9 k -/
def F_law_a_row (I : Ix) : Fn := ⟨10, [true, false], [
  .asg 2 (.tup []),
  .for_ (.v 3) (.var 1) [
    .ite (.cmp .eq (.ix (.var 3) (.int 0)) (.str "word")) [
      .for_ (.v 4) (.ix (.var 3) (.int 2)) [
        .ite (.cmp .isnot (.ix (.var 4) (.int 0)) .non) [
          .asg 2 (.bin .add (.var 2) (.tup [.call I.law_a_number [.var 0, .ix (.var 4) (.int 1), .ix (.var 4) (.int 2), .ix (.var 4) (.int 3)]]))] []]] [
      .ite (.cmp .eq (.ix (.var 3) (.int 0)) (.str "record")) [
        .asg 2 (.bin .add (.var 2) (.tup [.call I.law_a_row [.var 0, .ix (.var 3) (.int 2)]]))] [
        .ite (.cmp .eq (.ix (.var 3) (.int 0)) (.str "choice")) [
          .asg 5 (.ix (.ix (.var 3) (.int 3)) (.call I.law_draw [.var 0, .bi .len [.ix (.var 3) (.int 3)]])),
          .asg 2 (.bin .add (.var 2) (.tup [.tup [.ix (.var 5) (.int 1), .call I.law_a_row [.var 0, .ix (.var 5) (.int 2)]]]))] [
          .ite (.or (.cmp .eq (.ix (.var 3) (.int 0)) (.str "array")) (.cmp .eq (.ix (.var 3) (.int 0)) (.str "list"))) [
            .asg 6 (.call I.law_bounds [.ite (.cmp .eq (.ix (.var 3) (.int 0)) (.str "array")) (.ix (.var 3) (.int 4)) (.ix (.var 3) (.int 2))]),
            .asg 7 (.ix (.lst [.ix (.var 6) (.int 0), .ix (.var 6) (.int 1), .bin .add (.ix (.var 6) (.int 0)) (.call I.law_draw [.var 0, .bin .add (.bin .sub (.ix (.var 6) (.int 1)) (.ix (.var 6) (.int 0))) (.int 1)])]) (.call I.law_draw [.var 0, .int 3])),
            .ite (.cmp .eq (.ix (.var 3) (.int 0)) (.str "list")) [
              .asg 8 (.lc (.call I.law_a_row [.var 0, .ix (.var 3) (.int 3)]) (.v 9) (.rng [.var 7]) [] [9])] [
              .asg 8 (.lc (.call I.law_a_number [.var 0, .bin .mul (.int 8) (.call I.law_size [.ix (.var 3) (.int 2)]), .ix (.var 3) (.int 3), .ix (.var 3) (.int 5)]) (.v 9) (.rng [.var 7]) [] [9])],
            .asg 2 (.bin .add (.var 2) (.tup [.bi .tuple [.var 8]]))] []]]]],
  .ret (.var 2)]⟩
structure Rw (P : Prg) (I : Ix) : Prop where
  law_bounds : P.fns[I.law_bounds]? = some (F_law_bounds I)
  law_a_row : P.fns[I.law_a_row]? = some (F_law_a_row I)
theorem Rw.io_law_bounds {P : Prg} {I : Ix} (H : Rw P I) : P.io I.law_bounds = [false] := io_of H.law_bounds
theorem Rw.io_law_a_row {P : Prg} {I : Ix} (H : Rw P I) : P.io I.law_a_row = [true, false] := io_of H.law_a_row
local macro_rules | `(tactic| wp_walk) => `(tactic| simp -implicitDefEqProofs (disch := first | assumption | omega | (simp only [List.length_cons, List.length_nil, List.length_map, List.length_append]; omega)) only [MP.bnd_ap, MP.bX_ok, MP.thenS_ap, MP.tX_ok, MP.seqS_nx, MP.seqS_rt, MP.seqS_bk, MP.seqS_ct, MP.ret_ap, MP.opt_some, MP.when_true, MP.evB_nil, MP.evB_cons, MP.evS_asg, MP.evS_asgT, MP.evS_aug, MP.evS_setix, MP.evS_par, MP.sets_nil, MP.sets_cons, MP.evS_ex, MP.evS_ite, MP.evS_for, MP.evS_whl, MP.evS_ret, MP.evS_retN, MP.evS_brk, MP.evS_cont, MP.evS_pass, MP.selS_true, MP.selS_false, MP.selM_true, MP.selM_false, MP.slK_ap, MP.itK_ap, MP.tru_ap, MP.fz_ap, MP.var_v, MP.var_t, MP.var_o, MP.var_i, MP.int_v, MP.int_o, MP.str_v, MP.str_o, MP.bl_v, MP.bl_o, MP.bl_t, MP.non_v, MP.non_o, MP.glo_v, MP.glo_o, MP.glo_i, MP.tup_v, MP.tup_o, MP.tup_i, MP.lst_v, MP.lst_o, MP.lst_i, MP.bin_v, MP.bin_o, MP.bin_t, MP.bin_i, MP.negK_int, MP.neg_v, MP.neg_o, MP.not_v, MP.not_t, MP.not_o, MP.isB_bl, MP.and_v, MP.and_t, MP.and_o, MP.or_v, MP.or_t, MP.or_o, MP.cmp_t, MP.cmp_v, MP.cmp_o, MP.cmp2_t, MP.cmp2_v, MP.cmp2_o, MP.ite_v, MP.ite_o, MP.ite_i, MP.kix_v, MP.kix_o, MP.ix_v, MP.ix_o, MP.ix_t, MP.ix_i, MP.sl_v, MP.sl_o, MP.sl_i, MP.rev_v, MP.rev_o, MP.rev_i, MP.revK_t, MP.revK_l, MP.call_v, MP.call_o, MP.call_t, MP.call_i, MP.bi_v, MP.bi_o, MP.bi_t, MP.bi_i, MP.isi_v, MP.isi_o, MP.isi_t, MP.app_v, MP.ext_v, MP.pop_v, MP.pop_o, MP.revm_v, MP.rng_i, MP.dic_v, MP.dic_o, MP.lrng_v, MP.lrng_o, MP.lrng_i, MP.enu_i, MP.lc_v, MP.lc_o, MP.lc_i, MP.evs_nil, MP.evs_cons, MP.vals_nil, MP.vals_cons, MP.opds_nil, MP.opds_cons, MP.rdOs_nil, MP.rdOs_cons, MP.args_nil, MP.args_t, MP.args_f, MP.rdO_at, MP.rdO_sl, MP.d_val, MP.d_own, MP.d_lk, MP.opAt_ap, MP.opAtS_val, MP.opAtS_own, MP.opAtS_lk, MP.cap_ap, MP.capS_some, MP.retV_var, MP.retS_own, MP.retS_val, MP.ownAt_ap, MP.ownS_own, MP.chg_ap, MP.chgS_own, MP.chgO_some, MP.setAt_int, MP.itO_at', MP.itS_own, MP.itS_val, MP.itO_sl', MP.part_nil, MP.part_cons, MP.partK_int, MP.extK_lst, MP.callM_ap, MP.endC_ok, MP.takes_nil, MP.takes_at, MP.takes_sl, MP.backs_at, MP.backs_sl, MP.backs_nil, MP.lent_t, MP.lent_f, MP.lent_n, MP.endF_rt, MP.endF_nx, MP.onFr_nx, MP.onFr_rt, MP.unlk_nil, MP.retV_int, MP.retV_str, MP.retV_bl, MP.retV_non, MP.retV_glo, MP.retV_tup, MP.retV_lst, MP.retV_dic, MP.retV_bin, MP.retV_neg, MP.retV_not, MP.retV_and, MP.retV_or, MP.retV_cmp, MP.retV_cmp2, MP.retV_ite, MP.retV_kix, MP.retV_ix, MP.retV_sl, MP.retV_rev, MP.retV_call, MP.retV_bi, MP.retV_isi, MP.retV_mt, MP.retV_pop, MP.retV_lrng, MP.retV_lc, MP.retV_fs, MP.sl0, MP.sl1, MP.sl2, MP.sl3, MP.sl4, MP.sl5, MP.sl6, MP.sl7, MP.sl8, MP.sl9, MP.sl10, MP.sl11, MP.set0, MP.set1, MP.set2, MP.set3, MP.set4, MP.set5, MP.set6, MP.set7, MP.set8, MP.set9, MP.set10, MP.set11, MP.add_i, MP.sub_i, MP.pow_i, MP.and_i, MP.or_i, MP.xor_i, MP.eq_i, MP.ne_i, MP.lt_i, MP.le_i, MP.gt_i, MP.ge_i, MP.eq_s, MP.ne_s, MP.ix_l, MP.ix_t', MP.len_l, MP.len_t, MP.abs_i, MP.int_i, MP.max_i, MP.min_i, MP.list_l, MP.list_t, MP.list_s, MP.tuple_l, MP.omap_some, MP.obind_some, decide_true, decide_false, MP.tr_bl, MP.isi_ii, MP.isi_ib, MP.turnO_ap, MP.asgT_v, MP.asgT_tup, MP.asgTs_nil, MP.asgTs_cons, MP.forK_ap, MP.lcM_ap, MP.lcStep_ap, MP.wipeF_nil, MP.wipeF_cons, MP.putF_nil, MP.putF_cons, MP.ifsM_nil, MP.ifsM_cons, MP.seqI_l, MP.seqI_t, MP.seqI_s, MP.sEq, MP.atI_0, MP.atI_1, MP.atI_2, MP.atI_3, MP.atI_4, MP.atI_5, MP.atI_6, MP.atI_mapp, MP.atI_m1, MP.sz_if, MP.dlt_t, MP.dlt_f, MP.dle_t, MP.dle_f, MP.beq_t, MP.beq_f, MP.bne_t, MP.bne_f, MP.mul_okr, MP.mul_okl, MP.fdiv_ok, MP.mod_ok, MP.shl1_ok, MP.shl_ok, MP.shr_ok, MP.add_t, MP.add_lo, MP.add_so, MP.app_ok, MP.ext_ok, MP.rng1_ok, MP.rng2_ok, MP.eq_n, MP.ne_n, MP.isN_n, MP.isN_i, MP.isN_s, MP.isN_t, MP.isN_l, MP.isN_b, MP.tr_t, MP.tr_l, MP.tr_i, MP.kix_s, MP.look_c, MP.look_n, MP.ixd, MP.key_i, MP.key_s, MP.dl_c, MP.sum_ii, MP.sum_ss, MP.isi_tt, MP.isi_tl, MP.isi_ts, MP.isi_tb, MP.isi_ti, MP.isi_ll, MP.isi_lt, MP.isi_ss, MP.isi_st, MP.isi_sl, MP.isi_sb, MP.isi_si, MP.isi_is, MP.isi_it, MP.isi_il, MP.isi_bb, MP.isi_bi, MP.isi_bt, MP.isi_blx, MP.isi_nt, MP.isi_nl, MP.isi_nb, MP.isi_ni, MP.isi_ns, MP.eq_b, MP.sl12, MP.sl13, MP.sl14, MP.set12, MP.set13, MP.set14, MP.lc_t, MP.part_mn, MP.part_mc, MP.enuOk_l, MP.enuOk_t, MP.zip_i, MP.zipV_ll, MP.zipV_lt, MP.zipV_tl, MP.zipV_tt, MP.fs_v, MP.fs_o, MP.fsM_n, MP.fsM_c, MP.strOf_s, MP.sl_t, MP.sl_l, MP.mt_v, MP.mt_o, MP.mt_t, MP.mt_i, MP.ty_split, MP.ty_endswith, MP.ty_startswith, MP.ty_join, MP.ty_index, MP.ty_get, MP.csat_ok, MP.tsat_nx, MP.tsat_ct, MP.unlk_c, ↓reduceIte, String.reduceEq, Int.reduceEq, Int.reduceLT, Int.reduceLE, Int.reduceAdd, Int.reduceSub, Int.reduceMul, Int.reduceNeg, Int.reduceToNat, Nat.reduceAdd, Nat.reduceSub, List.length_cons, List.length_nil, Int.one_mul, Bool.not_true, Bool.not_false, Bool.and_true, Bool.true_and, Bool.and_false, Bool.false_and, Bool.or_true, Bool.true_or, Bool.or_false, Bool.false_or, List.isEmpty_cons, List.isEmpty_nil, List.cons_append, List.nil_append, List.append_nil, MP.Rw.io_law_bounds, MP.Rw.io_law_a_row, MP.Rich.io_law_tape, MP.Rich.io_law_draw, MP.Rich.io_law_name, MP.Rich.io_law_runs, MP.Rich.io_law_size, MP.Rich.io_law_any_word, MP.Rich.io_law_a_count, MP.Rich.io_law_a_field, MP.Rich.io_law_ranges, MP.Rich.io_law_a_number, MP.Rich.io_law_part, MP.Rich.io_law_case_numbers, MP.Rich.io_law_not_empty, MP.Rich.io_law_rich, MP.Rich.io_law_rich_item, MP.Rich.io_law_fixed, MP.Rich.io_law_rich_word, MP.Rich.io_law_rich_choice])
local macro_rules | `(tactic| wp_walk using $ts:term,*) => `(tactic| simp -implicitDefEqProofs (disch := first | assumption | omega | (simp only [List.length_cons, List.length_nil, List.length_map, List.length_append]; omega)) only [MP.bnd_ap, MP.bX_ok, MP.thenS_ap, MP.tX_ok, MP.seqS_nx, MP.seqS_rt, MP.seqS_bk, MP.seqS_ct, MP.ret_ap, MP.opt_some, MP.when_true, MP.evB_nil, MP.evB_cons, MP.evS_asg, MP.evS_asgT, MP.evS_aug, MP.evS_setix, MP.evS_par, MP.sets_nil, MP.sets_cons, MP.evS_ex, MP.evS_ite, MP.evS_for, MP.evS_whl, MP.evS_ret, MP.evS_retN, MP.evS_brk, MP.evS_cont, MP.evS_pass, MP.selS_true, MP.selS_false, MP.selM_true, MP.selM_false, MP.slK_ap, MP.itK_ap, MP.tru_ap, MP.fz_ap, MP.var_v, MP.var_t, MP.var_o, MP.var_i, MP.int_v, MP.int_o, MP.str_v, MP.str_o, MP.bl_v, MP.bl_o, MP.bl_t, MP.non_v, MP.non_o, MP.glo_v, MP.glo_o, MP.glo_i, MP.tup_v, MP.tup_o, MP.tup_i, MP.lst_v, MP.lst_o, MP.lst_i, MP.bin_v, MP.bin_o, MP.bin_t, MP.bin_i, MP.negK_int, MP.neg_v, MP.neg_o, MP.not_v, MP.not_t, MP.not_o, MP.isB_bl, MP.and_v, MP.and_t, MP.and_o, MP.or_v, MP.or_t, MP.or_o, MP.cmp_t, MP.cmp_v, MP.cmp_o, MP.cmp2_t, MP.cmp2_v, MP.cmp2_o, MP.ite_v, MP.ite_o, MP.ite_i, MP.kix_v, MP.kix_o, MP.ix_v, MP.ix_o, MP.ix_t, MP.ix_i, MP.sl_v, MP.sl_o, MP.sl_i, MP.rev_v, MP.rev_o, MP.rev_i, MP.revK_t, MP.revK_l, MP.call_v, MP.call_o, MP.call_t, MP.call_i, MP.bi_v, MP.bi_o, MP.bi_t, MP.bi_i, MP.isi_v, MP.isi_o, MP.isi_t, MP.app_v, MP.ext_v, MP.pop_v, MP.pop_o, MP.revm_v, MP.rng_i, MP.dic_v, MP.dic_o, MP.lrng_v, MP.lrng_o, MP.lrng_i, MP.enu_i, MP.lc_v, MP.lc_o, MP.lc_i, MP.evs_nil, MP.evs_cons, MP.vals_nil, MP.vals_cons, MP.opds_nil, MP.opds_cons, MP.rdOs_nil, MP.rdOs_cons, MP.args_nil, MP.args_t, MP.args_f, MP.rdO_at, MP.rdO_sl, MP.d_val, MP.d_own, MP.d_lk, MP.opAt_ap, MP.opAtS_val, MP.opAtS_own, MP.opAtS_lk, MP.cap_ap, MP.capS_some, MP.retV_var, MP.retS_own, MP.retS_val, MP.ownAt_ap, MP.ownS_own, MP.chg_ap, MP.chgS_own, MP.chgO_some, MP.setAt_int, MP.itO_at', MP.itS_own, MP.itS_val, MP.itO_sl', MP.part_nil, MP.part_cons, MP.partK_int, MP.extK_lst, MP.callM_ap, MP.endC_ok, MP.takes_nil, MP.takes_at, MP.takes_sl, MP.backs_at, MP.backs_sl, MP.backs_nil, MP.lent_t, MP.lent_f, MP.lent_n, MP.endF_rt, MP.endF_nx, MP.onFr_nx, MP.onFr_rt, MP.unlk_nil, MP.retV_int, MP.retV_str, MP.retV_bl, MP.retV_non, MP.retV_glo, MP.retV_tup, MP.retV_lst, MP.retV_dic, MP.retV_bin, MP.retV_neg, MP.retV_not, MP.retV_and, MP.retV_or, MP.retV_cmp, MP.retV_cmp2, MP.retV_ite, MP.retV_kix, MP.retV_ix, MP.retV_sl, MP.retV_rev, MP.retV_call, MP.retV_bi, MP.retV_isi, MP.retV_mt, MP.retV_pop, MP.retV_lrng, MP.retV_lc, MP.retV_fs, MP.sl0, MP.sl1, MP.sl2, MP.sl3, MP.sl4, MP.sl5, MP.sl6, MP.sl7, MP.sl8, MP.sl9, MP.sl10, MP.sl11, MP.set0, MP.set1, MP.set2, MP.set3, MP.set4, MP.set5, MP.set6, MP.set7, MP.set8, MP.set9, MP.set10, MP.set11, MP.add_i, MP.sub_i, MP.pow_i, MP.and_i, MP.or_i, MP.xor_i, MP.eq_i, MP.ne_i, MP.lt_i, MP.le_i, MP.gt_i, MP.ge_i, MP.eq_s, MP.ne_s, MP.ix_l, MP.ix_t', MP.len_l, MP.len_t, MP.abs_i, MP.int_i, MP.max_i, MP.min_i, MP.list_l, MP.list_t, MP.list_s, MP.tuple_l, MP.omap_some, MP.obind_some, decide_true, decide_false, MP.tr_bl, MP.isi_ii, MP.isi_ib, MP.turnO_ap, MP.asgT_v, MP.asgT_tup, MP.asgTs_nil, MP.asgTs_cons, MP.forK_ap, MP.lcM_ap, MP.lcStep_ap, MP.wipeF_nil, MP.wipeF_cons, MP.putF_nil, MP.putF_cons, MP.ifsM_nil, MP.ifsM_cons, MP.seqI_l, MP.seqI_t, MP.seqI_s, MP.sEq, MP.atI_0, MP.atI_1, MP.atI_2, MP.atI_3, MP.atI_4, MP.atI_5, MP.atI_6, MP.atI_mapp, MP.atI_m1, MP.sz_if, MP.dlt_t, MP.dlt_f, MP.dle_t, MP.dle_f, MP.beq_t, MP.beq_f, MP.bne_t, MP.bne_f, MP.mul_okr, MP.mul_okl, MP.fdiv_ok, MP.mod_ok, MP.shl1_ok, MP.shl_ok, MP.shr_ok, MP.add_t, MP.add_lo, MP.add_so, MP.app_ok, MP.ext_ok, MP.rng1_ok, MP.rng2_ok, MP.eq_n, MP.ne_n, MP.isN_n, MP.isN_i, MP.isN_s, MP.isN_t, MP.isN_l, MP.isN_b, MP.tr_t, MP.tr_l, MP.tr_i, MP.kix_s, MP.look_c, MP.look_n, MP.ixd, MP.key_i, MP.key_s, MP.dl_c, MP.sum_ii, MP.sum_ss, MP.isi_tt, MP.isi_tl, MP.isi_ts, MP.isi_tb, MP.isi_ti, MP.isi_ll, MP.isi_lt, MP.isi_ss, MP.isi_st, MP.isi_sl, MP.isi_sb, MP.isi_si, MP.isi_is, MP.isi_it, MP.isi_il, MP.isi_bb, MP.isi_bi, MP.isi_bt, MP.isi_blx, MP.isi_nt, MP.isi_nl, MP.isi_nb, MP.isi_ni, MP.isi_ns, MP.eq_b, MP.sl12, MP.sl13, MP.sl14, MP.set12, MP.set13, MP.set14, MP.lc_t, MP.part_mn, MP.part_mc, MP.enuOk_l, MP.enuOk_t, MP.zip_i, MP.zipV_ll, MP.zipV_lt, MP.zipV_tl, MP.zipV_tt, MP.fs_v, MP.fs_o, MP.fsM_n, MP.fsM_c, MP.strOf_s, MP.sl_t, MP.sl_l, MP.mt_v, MP.mt_o, MP.mt_t, MP.mt_i, MP.ty_split, MP.ty_endswith, MP.ty_startswith, MP.ty_join, MP.ty_index, MP.ty_get, MP.csat_ok, MP.tsat_nx, MP.tsat_ct, MP.unlk_c, ↓reduceIte, String.reduceEq, Int.reduceEq, Int.reduceLT, Int.reduceLE, Int.reduceAdd, Int.reduceSub, Int.reduceMul, Int.reduceNeg, Int.reduceToNat, Nat.reduceAdd, Nat.reduceSub, List.length_cons, List.length_nil, Int.one_mul, Bool.not_true, Bool.not_false, Bool.and_true, Bool.true_and, Bool.and_false, Bool.false_and, Bool.or_true, Bool.true_or, Bool.or_false, Bool.false_or, List.isEmpty_cons, List.isEmpty_nil, List.cons_append, List.nil_append, List.append_nil, MP.Rw.io_law_bounds, MP.Rw.io_law_a_row, MP.Rich.io_law_tape, MP.Rich.io_law_draw, MP.Rich.io_law_name, MP.Rich.io_law_runs, MP.Rich.io_law_size, MP.Rich.io_law_any_word, MP.Rich.io_law_a_count, MP.Rich.io_law_a_field, MP.Rich.io_law_ranges, MP.Rich.io_law_a_number, MP.Rich.io_law_part, MP.Rich.io_law_case_numbers, MP.Rich.io_law_not_empty, MP.Rich.io_law_rich, MP.Rich.io_law_rich_item, MP.Rich.io_law_fixed, MP.Rich.io_law_rich_word, MP.Rich.io_law_rich_choice, $[$ts:term],*])
inductive All2 {α β : Type} (R : α → β → Prop) : List α → List β → Prop
  | nil : All2 R [] []
  | cons {a : α} {b : β} {xs : List α} {ys : List β} : R a b → All2 R xs ys → All2 R (a :: xs) (b :: ys)
theorem All2.snoc {α β : Type} {R : α → β → Prop} {a : α} {b : β} : ∀ {xs : List α} {ys : List β}, All2 R xs ys → R a b → All2 R (xs ++ [a]) (ys ++ [b])
  | _, _, .nil, h => .cons h .nil
  | _, _, .cons h1 h2, h => .cons h1 (h2.snoc h)
theorem All2.len {α β : Type} {R : α → β → Prop} : ∀ {xs : List α} {ys : List β}, All2 R xs ys → ys.length = xs.length
  | _, _, .nil => rfl
  | _, _, .cons _ h => by rw [List.length_cons, List.length_cons, h.len]
theorem All2.get {α β : Type} {R : α → β → Prop} : ∀ {xs : List α} {ys : List β} {j : Nat} {x : α}, All2 R xs ys → xs[j]? = some x → ∃ y, ys[j]? = some y ∧ R x y
  | _, _, 0, x, .cons h _, e => ⟨_, rfl, by cases e; exact h⟩
  | _, _, j + 1, x, .cons _ h, e => h.get (j := j) (x := x) (by simpa using e)
theorem All2.mono {α β : Type} {R S : α → β → Prop} (hi : ∀ a b, R a b → S a b) : ∀ {xs : List α} {ys : List β}, All2 R xs ys → All2 S xs ys
  | _, _, .nil => .nil
  | _, _, .cons h1 h2 => .cons (hi _ _ h1) (h2.mono hi)
/-- a value of a member -/
def ValP (R : List Item → List D → Prop) : Mbr → D → Prop
  | .int _ p _, v => ∃ i, v = .int i ∧ Alw p.w p.sg p.rs i ∧ -4294967296 ≤ i ∧ i ≤ 4294967296
  | .com _ _ it, v => match it with
    | .arr _ w sg c rs _ => ∃ ns : List Int, v = .tup (ns.map .int) ∧ c.lo ≤ ns.length ∧ (ns.length : Int) ≤ c.hi ∧ ∀ i ∈ ns, Alw (8 * w.sz) sg rs i ∧ -4294967296 ≤ i ∧ i ≤ 4294967296
    | .lst _ c its => ∃ rows : List (List D), v = .tup (rows.map .tup) ∧ c.lo ≤ rows.length ∧ (rows.length : Int) ≤ c.hi ∧ ∀ r ∈ rows, R its r
    | .cho _ _ cs => ∃ c r, c ∈ cs ∧ v = .tup [.str c.nm, .tup r] ∧ R c.its r
    | .rcd _ its => ∃ r, v = .tup r ∧ R its r
    | _ => False
def RowP : Nat → List Item → List D → Prop
  | 0 => fun its row => All2 (ValP fun _ _ => False) (mbrs its) row
  | n + 1 => fun its row => All2 (ValP (RowP n)) (mbrs its) row
def RowQ : Nat → List Item → List D → Prop
  | 0 => fun _ _ => False
  | n + 1 => RowP n
theorem row_of {d : Nat} {its : List Item} {row : List D} (h : All2 (ValP (RowQ d)) (mbrs its) row) : RowP d its row := by
  cases d <;> exact h
theorem RowP.all {d : Nat} {its : List Item} {row : List D} (h : RowP d its row) : All2 (ValP (RowQ d)) (mbrs its) row := by
  cases d <;> exact h
theorem cnt_b {c : Cnt} (h : c.ok) : 0 ≤ c.lo ∧ c.lo ≤ c.hi ∧ c.hi ≤ 60 := by cases c <;> (unfold Cnt.ok at h; unfold Cnt.lo Cnt.hi; dsimp only at *; omega)
theorem LcR.each {Q : D → Prop} : ∀ {xs ds : List D}, LcR (fun _ d => ∃ b : D, d = [b] ∧ Q b) xs ds → ds.length = xs.length ∧ ∀ b ∈ ds, Q b
  | _, _, .nil => ⟨rfl, fun b h => by cases h⟩
  | _, _, .cons h hr => by
    obtain ⟨b, rfl, h⟩ := h
    obtain ⟨h1, h2⟩ := LcR.each hr
    exact ⟨by simp [h1], fun c hc => by
      rcases List.mem_cons.mp hc with rfl | hc
      · exact h
      · exact h2 c hc⟩
theorem rows_of {Q : List D → Prop} : ∀ {ds : List D}, (∀ b ∈ ds, ∃ r : List D, b = .tup r ∧ Q r) → ∃ rows : List (List D), ds = rows.map .tup ∧ ∀ r ∈ rows, Q r
  | [], _ => ⟨[], rfl, fun r h => by cases h⟩
  | d :: ds, h => by
    obtain ⟨r, rfl, hr⟩ := h d List.mem_cons_self
    obtain ⟨rows, rfl, hR⟩ := rows_of fun b hb => h b (List.mem_cons_of_mem _ hb)
    exact ⟨r :: rows, rfl, fun q hq => by
      rcases List.mem_cons.mp hq with rfl | hq
      · exact hr
      · exact hR q hq⟩
section
variable {P : Prg} {I : Ix} {wn kk : Nat}
theorem Rw.bounds (W : Rw P I) (hk : 0 < kk) (c : Cnt) : callF P wn kk I.law_bounds [.val c.d] = .ok (.val (.tup [.int c.lo, .int c.hi])) [.un] := by
  obtain ⟨k, rfl⟩ : ∃ k, kk = k + 1 := ⟨kk - 1, by omega⟩
  rw [callF_succ P wn k W.law_bounds _ rfl]
  unfold F_law_bounds
  simp only [List.length_cons, List.length_nil, List.reduceReplicate, Nat.reduceSub, Nat.reduceAdd, List.cons_append, List.nil_append]
  cases c <;> (wp_walk using Cnt.d; rfl)
def RowC (P : Prg) (I : Ix) (wn n : Nat) : Prop := ∀ (kk : Nat) (its : List Item) (t : List D), n + 3 < kk → Lay n its → Tp t →
  CSat (callF P wn kk I.law_a_row [.own t, .val (lay its)]) fun s ps => ∃ (row t' : List D), s = .val (.tup row) ∧ RowP n its row ∧ ps = [.own t', .un] ∧ Tp t'
theorem Rw.step (W : Rw P I) (H : Rich P I) {n : Nat} (IH : ∀ e, n = e + 1 → RowC P I wn e) : RowC P I wn n := by
  intro kk its t hk hL tp
  obtain ⟨k, rfl⟩ : ∃ k, kk = k + 1 := ⟨kk - 1, by omega⟩
  rw [callF_succ P wn k W.law_a_row _ rfl]
  unfold F_law_a_row
  simp only [List.length_cons, List.length_nil, List.reduceReplicate, Nat.reduceSub, Nat.reduceAdd, List.cons_append, List.nil_append]
  have hS : seqI (lay its) = some (its.map Item.d) := rfl
  have hlen := hL.len
  have sz := fun w => H.size (wn := wn) (kk := k) (by omega) w
  have bd := fun c => W.bounds (wn := wn) (kk := k) (by omega) c
  have e1 : ∀ its' : List Item, D.tup (Item.ds its') = lay its' := fun its' => by rw [Item.ds_map]; rfl
  have inner : ∀ (its' : List Item) (t : List D), LayP n its' → Tp t → ∃ (row t' : List D), callF P wn k I.law_a_row [.own t, .val (lay its')] = .ok (.val (.tup row)) [.own t', .un] ∧ RowQ n its' row ∧ Tp t' := fun its' t hL tp => by
    cases n with
    | zero => exact hL.elim
    | succ e =>
      obtain ⟨_, _, e1, row, t', rfl, h, rfl, tp⟩ := (IH e rfl k its' t (by omega) hL tp).get
      exact ⟨row, t', e1, h, tp⟩
  wp_walk using hS
  refine for_t (G := fun z => CSat (endF _ (qX _ (onFr _ z))) _) (fun j fr => ∃ (t' row : List D) (y3 y4 y5 y6 y7 y8 : Slot), Tp t' ∧ All2 (ValP (RowQ n)) (mbrs (its.take j)) row ∧ (mbrs (its.take j)).length ≤ 32 * j ∧ fr = [.own t', .val (lay its), .val (.tup row), y3, y4, y5, y6, y7, y8, .un])
    ⟨t, [], _, _, _, _, _, _, tp, by rw [List.take_zero]; exact .nil, by simp [mbrs], rfl⟩ ?_ ?_
  · rintro j d fr hj ⟨t, row, y3, y4, y5, y6, y7, y8, tp, hA, hl, rfl⟩
    obtain ⟨i, hi, rfl⟩ := map_ix hj
    have hj2 : j < its.length := (List.getElem?_eq_some_iff.mp hi).1
    have hok := hL.all i (List.mem_of_getElem? hi)
    rw [take_snoc hi, mbrs_snoc]
    have hl1 := mbrs_len1 hok
    generalize mbrs (its.take j) = l at *
    have hl3 : (l ++ i.mbrs).length ≤ 32 * (j + 1) := by rw [List.length_append]; omega
    have hz := hA.len
    cases i with
    | word w ps =>
      have hS : seqI (D.tup (ps.map Part.d)) = some (ps.map Part.d) := rfl
      have hlp := hok.1
      wp_walk using Item.d, hS
      refine for_t (G := fun z => TSat (qX _ (qX _ (onFr _ z))) _) (fun j2 fr => ∃ (t' row : List D) (y4 : Slot), Tp t' ∧ All2 (ValP (RowQ n)) (l ++ fieldsV (.word w ps) (8 * w.sz) (ps.take j2)) row ∧ fr = [.own t', .val (lay its), .val (.tup row), .val (.tup [.str (Str.ofString "word"), .str w.str, .tup (ps.map Part.d)]), y4, y5, y6, y7, y8, .un])
        ⟨t, row, _, tp, by rw [List.take_zero]; show All2 _ (l ++ []) _; rw [List.append_nil]; exact hA, rfl⟩ ?_ ?_
      · rintro j2 d fr hj3 ⟨t, row, y4, tp, hA, rfl⟩
        obtain ⟨p, hp, rfl⟩ := map_ix hj3
        have hpo := hok.2.1 p (List.mem_of_getElem? hp)
        rw [take_snoc hp, fieldsV_snoc]
        have hl2 := fieldsV_len (.word w ps) (ps.take j2) (8 * w.sz)
        rw [List.length_take] at hl2
        have hz := hA.len
        rw [List.length_append] at hz
        generalize fieldsV (.word w ps) (8 * w.sz) (ps.take j2) = q at *
        cases hn : p.nm with
        | none =>
          wp_walk using Part.d, hn, oD_n
          exact ⟨t, row, _, tp, by rw [if_neg (by decide), List.append_nil]; exact hA, rfl⟩
        | some x =>
          wp_walk using Part.d, hn, oD_s
          obtain ⟨_, _, e4, v, t4, rfl, hv, v0, v1, rfl, tp⟩ := (H.a_number (wn := wn) (kk := k) (by omega) tp (w := p.w) (sg := p.sg) (rs := p.rs) hpo.2.1 hpo.2.2.1 hpo.2.2.2.1).get
          wp_walk using e4
          exact ⟨t4, row ++ [.int v], _, tp, by rw [← List.append_assoc]; exact hA.snoc ⟨v, rfl, hv, v0, v1⟩, rfl⟩
      · rintro fr ⟨t, row, y4, tp, hA, rfl⟩
        rw [List.length_map, List.take_length] at hA
        wp_walk
        exact ⟨t, row, _, _, _, _, _, _, tp, hA, hl3, rfl⟩
    | lit bs =>
      have e0 : (Item.lit bs).mbrs = [] := rfl
      rw [e0, List.append_nil] at hl3 ⊢
      wp_walk using Item.d
      exact ⟨t, row, _, _, _, _, _, _, tp, hA, hl3, rfl⟩
    | res m =>
      have e0 : (Item.res m).mbrs = [] := rfl
      rw [e0, List.append_nil] at hl3 ⊢
      wp_walk using Item.d
      exact ⟨t, row, _, _, _, _, _, _, tp, hA, hl3, rfl⟩
    | chk x =>
      have e0 : (Item.chk x).mbrs = [] := rfl
      rw [e0, List.append_nil] at hl3 ⊢
      wp_walk using Item.d
      exact ⟨t, row, _, _, _, _, _, _, tp, hA, hl3, rfl⟩
    | rcd nm its' =>
      obtain ⟨r, t2, e2, hr, tp⟩ := inner its' t hok.2 tp
      wp_walk using Item.d, e1, e2
      exact ⟨t2, row ++ [.tup r], _, _, _, _, _, _, tp, hA.snoc ⟨r, rfl, hr⟩, hl3, rfl⟩
    | cho nm w cs =>
      have hcl := hok.2.2.1
      have hcs : (Case.ds cs).length = cs.length := by rw [Case.ds_map, List.length_map]
      wp_walk using Item.d, hcs
      have hne : 0 < cs.length := List.length_pos_iff.mpr hok.2.1.1
      obtain ⟨u, t_u, e_u, tp, u0, u1, u2⟩ := H.draw (wn := wn) (kk := k) (by omega) tp (cs.length) (by omega)
      replace u1 := u1 (by omega)
      wp_walk using e_u, hcs
      obtain ⟨c, hc, e3⟩ := menu (xs := cs) u0 (by omega)
      have e4 : atI (Case.ds cs) u = some c.d := by rw [Case.ds_map, at_map, e3]; rfl
      obtain ⟨r, t2, e2, hr, tp⟩ := inner c.its _ (hok.2.2.2 c hc).2.2.2 tp
      obtain ⟨n1, nm1, its1⟩ := c
      have e2 : callF P wn k I.law_a_row [.own t_u, .val (lay its1)] = .ok (.val (.tup r)) [.own t2, .un] := e2
      wp_walk using e4, Case.d, e1, e2
      exact ⟨t2, row ++ [.tup [.str nm1, .tup r]], _, _, _, _, _, _, tp, hA.snoc ⟨Case.mk n1 nm1 its1, r, hc, rfl, hr⟩, hl3, rfl⟩
    | lst nm c its' =>
      have hb := cnt_b hok.2.1
      wp_walk using Item.d, bd
      obtain ⟨u, t_u, e_u, tp, u0, u1, u2⟩ := H.draw (wn := wn) (kk := k) (by omega) tp (c.hi - c.lo + 1) (by omega)
      replace u1 := u1 (by omega)
      wp_walk using e_u
      obtain ⟨v, t_v, e_v, tp, v0, v1, v2⟩ := H.draw (wn := wn) (kk := k) (by omega) tp (3) (by omega)
      replace v1 := v1 (by omega)
      wp_walk using e_v
      obtain ⟨m, m0, m1, e_m⟩ := imenu [c.lo, c.hi, c.lo + u] v (c.lo) (c.hi) (by intro x hx; simp only [List.mem_cons, List.not_mem_nil, or_false] at hx; omega) (by omega) (by simp only [List.length_cons, List.length_nil]; omega)
      simp only [List.map_cons, List.map_nil] at e_m
      wp_walk using e_m
      wp_walk using e1
      obtain ⟨ds, fr', e, ⟨t', y, tp, rfl⟩, hR⟩ := lcL_gen (own := [9]) (tgt := asgT (.v 9)) (ifs := ifsM []) (el := bnd (fz (ev P (callF P wn k) (.call I.law_a_row [.var 0, .ix (.var 3) (.int 3)])).v) fun d => ret [d])
        (fun fr => ∃ (t' : List D) (y : Slot), Tp t' ∧ fr = [.own t', .val (lay its), .val (.tup row), .val (.tup [.str (Str.ofString "list"), .str nm, c.d, lay its']), y4, y5, .val (.tup [.int c.lo, .int c.hi]), .val (.int m), y8, y]) (fun _ d => ∃ b : D, d = [b] ∧ ∃ r, b = .tup r ∧ RowQ n its' r) (upto 0 m.toNat) [.own t_v, .val (lay its), .val (.tup row), .val (.tup [.str (Str.ofString "list"), .str nm, c.d, lay its']), y4, y5, .val (.tup [.int c.lo, .int c.hi]), .val (.int m), y8, .un] ⟨_, _, tp, rfl⟩ (by
          rintro x fr hx ⟨t', y, tp, rfl⟩
          obtain ⟨r, t2, e2, hr, tp⟩ := inner its' t' hok.2.2 tp
          refine ⟨[.tup r], [.own t2, .val (lay its), .val (.tup row), .val (.tup [.str (Str.ofString "list"), .str nm, c.d, lay its']), y4, y5, .val (.tup [.int c.lo, .int c.hi]), .val (.int m), y8, .val x], ?_, ⟨t2, _, tp, rfl⟩, _, rfl, _, rfl, hr⟩
          wp_walk using e2)
      obtain ⟨hl5, hQ⟩ := hR.each
      obtain ⟨rows, rfl, hQ2⟩ := rows_of hQ
      rw [List.length_map, upto_len] at hl5
      have hz5 : (rows.map D.tup).length < sizeLine := by rw [List.length_map]; exact sz_lt (by omega)
      wp_walk using e, lcEnd_ok hz5
      exact ⟨t', row ++ [.tup (rows.map .tup)], _, _, _, _, _, _, tp, hA.snoc ⟨rows, rfl, by omega, by omega, hQ2⟩, hl3, rfl⟩
    | arr nm w sg c rs df =>
      have hb := cnt_b hok.2.1
      have hs : 1 ≤ w.sz ∧ w.sz ≤ 4 := by cases w <;> decide
      wp_walk using Item.d, bd
      obtain ⟨u, t_u, e_u, tp, u0, u1, u2⟩ := H.draw (wn := wn) (kk := k) (by omega) tp (c.hi - c.lo + 1) (by omega)
      replace u1 := u1 (by omega)
      wp_walk using e_u
      obtain ⟨v, t_v, e_v, tp, v0, v1, v2⟩ := H.draw (wn := wn) (kk := k) (by omega) tp (3) (by omega)
      replace v1 := v1 (by omega)
      wp_walk using e_v
      obtain ⟨m, m0, m1, e_m⟩ := imenu [c.lo, c.hi, c.lo + u] v (c.lo) (c.hi) (by intro x hx; simp only [List.mem_cons, List.not_mem_nil, or_false] at hx; omega) (by omega) (by simp only [List.length_cons, List.length_nil]; omega)
      simp only [List.map_cons, List.map_nil] at e_m
      wp_walk using e_m
      obtain ⟨ds, fr', e, ⟨t', y, tp, rfl⟩, hR⟩ := lcL_gen (own := [9]) (tgt := asgT (.v 9)) (ifs := ifsM []) (el := bnd (fz (ev P (callF P wn k) (.call I.law_a_number [.var 0, .bin .mul (.int 8) (.call I.law_size [.ix (.var 3) (.int 2)]), .ix (.var 3) (.int 3), .ix (.var 3) (.int 5)])).v) fun d => ret [d])
        (fun fr => ∃ (t' : List D) (y : Slot), Tp t' ∧ fr = [.own t', .val (lay its), .val (.tup row), .val (.tup [.str (Str.ofString "array"), .str nm, .str w.str, .bl sg, c.d, rsD rs, oD .int df]), y4, y5, .val (.tup [.int c.lo, .int c.hi]), .val (.int m), y8, y]) (fun _ d => ∃ b : Int, d = [.int b] ∧ (Alw (8 * w.sz) sg rs b ∧ -4294967296 ≤ b ∧ b ≤ 4294967296)) (upto 0 m.toNat) [.own t_v, .val (lay its), .val (.tup row), .val (.tup [.str (Str.ofString "array"), .str nm, .str w.str, .bl sg, c.d, rsD rs, oD .int df]), y4, y5, .val (.tup [.int c.lo, .int c.hi]), .val (.int m), y8, .un] ⟨_, _, tp, rfl⟩ (by
          rintro x fr hx ⟨t', y, tp, rfl⟩
          obtain ⟨_, _, e2, v, t2, rfl, hv, v0, v1, rfl, tp⟩ := (H.a_number (wn := wn) (kk := k) (by omega) tp (w := 8 * w.sz) (sg := sg) (rs := rs) (by omega) (by omega) hok.2.2.1).get
          refine ⟨[.int v], [.own t2, .val (lay its), .val (.tup row), .val (.tup [.str (Str.ofString "array"), .str nm, .str w.str, .bl sg, c.d, rsD rs, oD .int df]), y4, y5, .val (.tup [.int c.lo, .int c.hi]), .val (.int m), y8, .val x], ?_, ⟨t2, _, tp, rfl⟩, _, rfl, hv, v0, v1⟩
          wp_walk using sz, e2)
      obtain ⟨bs, rfl, hl5, hb5⟩ := hR.ints
      rw [upto_len] at hl5
      have hz5 : (bs.map D.int).length < sizeLine := by rw [List.length_map]; exact sz_lt (by omega)
      wp_walk using e, lcEnd_ok hz5
      exact ⟨t', row ++ [.tup (bs.map .int)], _, _, _, _, _, _, tp, hA.snoc ⟨bs, rfl, by omega, by omega, hb5⟩, hl3, rfl⟩
  · rintro fr ⟨t, row, y3, y4, y5, y6, y7, y8, tp, hA, hl, rfl⟩
    rw [List.length_map, List.take_length] at hA
    wp_walk
    exact ⟨row, t, rfl, row_of hA, rfl, tp⟩
/-- A ROW -/
theorem Rw.row (W : Rw P I) (H : Rich P I) : ∀ n : Nat, RowC P I wn n
  | 0 => W.step H fun e z => by cases z
  | n + 1 => W.step H fun e z => by cases z; exact W.row H n
end
end MP

/-! MP: the facts of a row. -/
namespace MP
open PySem L2
def Mbr.nmS : Mbr → Str
  | .int _ p _ => p.nm.getD (S' "")
  | .com nm _ _ => nm
def inP (p nm : Str) : Str := if p = S' "" ∨ nm = S' "" then p ++ nm else (p ++ S' ".") ++ nm
def ixP (p : Str) (i : Nat) : Str := ((p ++ S' "[") ++ iS (i : Int)) ++ S' "]"
def idxF (f : D → Str → List D) (p : Str) (vs : List D) (n : Nat) : List D := (List.range n).flatMap fun i => f (vs[i]?.getD .non) (ixP p i)
def rowT (F : List D → Str → List D) : D → Str → List D
  | .tup r, q => F r q
  | _, _ => []
def lenF (p : Str) (vs : List D) : D := .tup [.str (p ++ S' ".length"), .int vs.length]
def one1 (v : D) (q : Str) : List D := [.tup [.str q, v]]
def caseF (F : List Item → List D → Str → List D) (cs : List Case) (p : Str) : List D → List D
  | [.str nm, .tup r] => .tup [.str (p ++ S' ".case"), .str nm] :: (match cs.filter fun c => decide (c.nm = nm) with
    | c :: _ => F c.its r (p ++ S' ".value")
    | [] => [])
  | _ => []
def vF (F : List Item → List D → Str → List D) : Mbr → D → Str → List D
  | .int _ _ _, v, p => one1 v p
  | .com _ _ it, v, p => match it, v with
    | .arr _ _ _ _ _ _, .tup vs => lenF p vs :: idxF one1 p vs vs.length
    | .lst _ _ its, .tup vs => lenF p vs :: idxF (rowT (F its)) p vs vs.length
    | .cho _ _ cs, .tup xs => caseF F cs p xs
    | .rcd _ its, .tup r => F its r p
    | _, _ => []
def rF : Nat → List Item → List D → Str → List D
  | 0 => fun its row p => ((mbrs its).zip row).flatMap fun q => vF (fun _ _ _ => []) q.1 q.2 (inP p q.1.nmS)
  | n + 1 => fun its row p => ((mbrs its).zip row).flatMap fun q => vF (rF n) q.1 q.2 (inP p q.1.nmS)
def rG : Nat → List Item → List D → Str → List D
  | 0 => fun _ _ _ => []
  | n + 1 => rF n
theorem rF_eq (d : Nat) (its : List Item) (row : List D) (p : Str) : rF d its row p = ((mbrs its).zip row).flatMap fun q => vF (rG d) q.1 q.2 (inP p q.1.nmS) := by cases d <;> rfl
/-! how many -/
def Mbr.wt : Mbr → Nat
  | .int _ _ _ => 1
  | .com _ _ it => it.wt
theorem wt_mbrs1 (i : Item) : ((i.mbrs).map Mbr.wt).sum ≤ i.wt := by
  cases i with
  | word w ps =>
    have key : ∀ (l : List Mbr), (∀ m ∈ l, m.wt = 1) → (l.map Mbr.wt).sum = l.length := fun l => by
      induction l with
      | nil => intro _; rfl
      | cons a r ih => intro h; rw [List.map_cons, List.sum_cons, h a List.mem_cons_self, ih fun m hm => h m (List.mem_cons_of_mem _ hm), List.length_cons]; omega
    have h := key (fieldsV (.word w ps) (8 * w.sz) ps) fun m hm => by
      obtain ⟨l, p, rfl, _⟩ := fieldsV_int _ _ _ m hm; rfl
    have h2 := fieldsV_len (.word w ps) ps (8 * w.sz)
    show ((fieldsV (.word w ps) (8 * w.sz) ps).map Mbr.wt).sum ≤ _
    rw [h, Item.wt]; exact h2
  | lit bs => exact Nat.zero_le _
  | res m => exact Nat.zero_le _
  | chk x => exact Nat.zero_le _
  | arr nm w sg c rs df => simp [Item.mbrs, Mbr.wt]
  | lst nm c its => simp [Item.mbrs, Mbr.wt]
  | cho nm w cs => simp [Item.mbrs, Mbr.wt]
  | rcd nm its => simp [Item.mbrs, Mbr.wt]
theorem wt_mbrs : ∀ its : List Item, ((mbrs its).map Mbr.wt).sum ≤ Item.wts its
  | [] => Nat.zero_le _
  | i :: r => by
    have e : mbrs (i :: r) = i.mbrs ++ mbrs r := by unfold mbrs; simp
    have h1 := wt_mbrs1 i
    have h2 := wt_mbrs r
    rw [e, List.map_append, List.sum_append, Item.wts]; omega
theorem case_wt : ∀ {cs : List Case} {c : Case}, c ∈ cs → Item.wts c.its ≤ Case.wts cs
  | d :: cs, c, h => by
    rw [Case.wts]
    rcases List.mem_cons.mp h with rfl | h
    · have : c.wt = Item.wts c.its := by cases c; rw [Case.wt]; rfl
      omega
    · have := case_wt h; omega
theorem case_filter : ∀ {cs : List Case} {c : Case}, (cs.map Case.nm).Nodup → c ∈ cs → cs.filter (fun x => decide (x.nm = c.nm)) = [c]
  | d :: cs, c, hn, h => by
    have hn2 : d.nm ∉ cs.map Case.nm ∧ (cs.map Case.nm).Nodup := List.nodup_cons.mp hn
    rcases List.mem_cons.mp h with rfl | h
    · rw [List.filter_cons, if_pos (decide_eq_true rfl), List.filter_eq_nil_iff.mpr]
      intro x hx hd
      exact hn2.1 (by rw [← of_decide_eq_true hd]; exact List.mem_map_of_mem hx)
    · have hne : ¬ d.nm = c.nm := fun e => hn2.1 (by rw [e]; exact List.mem_map_of_mem h)
      rw [List.filter_cons, if_neg (by simpa using hne)]
      exact case_filter hn2.2 h
theorem vF_cho (F : List Item → List D → Str → List D) (nmx : Str) (k : String) (nm : Str) (w : Wd) (p : Str) (r : List D) {cs : List Case} {c : Case} (hn : (cs.map Case.nm).Nodup) (hc : c ∈ cs) : vF F (.com nmx k (.cho nm w cs)) (.tup [.str c.nm, .tup r]) p = .tup [.str (p ++ S' ".case"), .str c.nm] :: F c.its r (p ++ S' ".value") := by
  show D.tup [.str (p ++ S' ".case"), .str c.nm] :: (match cs.filter (fun x => decide (x.nm = c.nm)) with
    | c :: _ => F c.its r (p ++ S' ".value")
    | [] => []) = _
  rw [case_filter hn hc]
theorem flat_le {α : Type} (f : α → List D) (B : Nat) : ∀ (l : List α), (∀ a ∈ l, (f a).length ≤ B) → (l.flatMap f).length ≤ l.length * B
  | [], _ => Nat.zero_le _
  | a :: l, h => by
    have h1 := h a List.mem_cons_self
    have h2 := flat_le f B l fun b hb => h b (List.mem_cons_of_mem _ hb)
    rw [List.flatMap_cons, List.length_append, List.length_cons, Nat.succ_mul]; omega
theorem all2_flat {R : Mbr → D → Prop} (f : Mbr → D → List D) : ∀ {ms : List Mbr} {row : List D}, All2 R ms row → (∀ m ∈ ms, ∀ v, R m v → (f m v).length ≤ m.wt) → ((ms.zip row).flatMap fun q => f q.1 q.2).length ≤ (ms.map Mbr.wt).sum
  | _, _, .nil, _ => Nat.zero_le _
  | m :: ms, v :: row, .cons h1 h2, h => by
    have := h m List.mem_cons_self v h1
    have := all2_flat f h2 fun m hm => h m (List.mem_cons_of_mem _ hm)
    rw [List.zip_cons_cons, List.flatMap_cons, List.length_append, List.map_cons, List.sum_cons]
    show (f m v).length + _ ≤ _
    omega
theorem all2_zip {R : Mbr → D → Prop} : ∀ {ms : List Mbr} {row : List D}, All2 R ms row → ∀ {q : Mbr × D}, q ∈ ms.zip row → R q.1 q.2
  | _, _, .nil, q, h => by cases h
  | m :: ms, v :: row, .cons h1 h2, q, h => by
    rw [List.zip_cons_cons] at h
    rcases List.mem_cons.mp h with rfl | h
    · exact h1
    · exact all2_zip h2 h
theorem mbr_it {its : List Item} {nm : Str} {k : String} {it : Item} (h : Mbr.com nm k it ∈ mbrs its) : it ∈ its := by
  unfold mbrs at h
  obtain ⟨i, hi, hm⟩ := List.mem_flatMap.mp h
  cases i with
  | word w ps => obtain ⟨l, p, e, _⟩ := fieldsV_int _ _ _ _ hm; cases e
  | lit bs => cases hm
  | res m => cases hm
  | chk x => cases hm
  | arr nm w sg c rs df => have := List.mem_singleton.mp hm; cases this; exact hi
  | lst nm c its => have := List.mem_singleton.mp hm; cases this; exact hi
  | cho nm w cs => have := List.mem_singleton.mp hm; cases this; exact hi
  | rcd nm its => have := List.mem_singleton.mp hm; cases this; exact hi
/-- how many facts, and of what form -/
def Scal (x : D) : Prop := ∃ (p : Str) (v : D), x = .tup [.str p, v] ∧ Pl 0 v
def RowLen (F : List Item → List D → Str → List D) (L : List Item → Prop) (R : List Item → List D → Prop) : Prop := ∀ its row p, L its → R its row → (F its row p).length ≤ Item.wts its ∧ ∀ x ∈ F its row p, Scal x
theorem scal_int (p : Str) (i : Int) : Scal (.tup [.str p, .int i]) := ⟨p, .int i, rfl, trivial⟩
theorem scal_str (p x : Str) : Scal (.tup [.str p, .str x]) := ⟨p, .str x, rfl, trivial⟩
theorem idx_len {f : D → Str → List D} {p : Str} {vs : List D} {B : Nat} (h : ∀ v ∈ vs, ∀ q, (f v q).length ≤ B ∧ ∀ x ∈ f v q, Scal x) : (idxF f p vs vs.length).length ≤ vs.length * B ∧ ∀ x ∈ idxF f p vs vs.length, Scal x := by
  have key : ∀ i, i < vs.length → ∃ v ∈ vs, vs[i]?.getD .non = v := fun i hi => ⟨vs[i], List.getElem_mem hi, by rw [List.getElem?_eq_getElem hi]; rfl⟩
  constructor
  · have := flat_le (fun i => f (vs[i]?.getD .non) (ixP p i)) B (List.range vs.length) fun i hi => by
      obtain ⟨v, hv, e⟩ := key i (List.mem_range.mp hi)
      rw [e]; exact (h v hv _).1
    rw [List.length_range] at this
    exact this
  · intro x hx
    obtain ⟨i, hi, hx⟩ := List.mem_flatMap.mp hx
    obtain ⟨v, hv, e⟩ := key i (List.mem_range.mp hi)
    rw [e] at hx
    exact (h v hv _).2 x hx
theorem vF_len {F : List Item → List D → Str → List D} {L : List Item → Prop} {R : List Item → List D → Prop} (hF : RowLen F L R) {its : List Item} (hok : ∀ i ∈ its, i.ok L) {m : Mbr} (hm : m ∈ mbrs its) {v : D} (hv : ValP R m v) (p : Str) : (vF F m v p).length ≤ m.wt ∧ ∀ x ∈ vF F m v p, Scal x := by
  cases m with
  | int l q it =>
    obtain ⟨i, rfl, _⟩ := hv
    exact ⟨Nat.le_refl _, fun x hx => by rw [List.mem_singleton.mp hx]; exact scal_int _ _⟩
  | com nm k it =>
    have hi := hok it (mbr_it hm)
    cases it with
    | word w ps => exact hv.elim
    | lit bs => exact hv.elim
    | res m => exact hv.elim
    | chk x => exact hv.elim
    | arr nm w sg c rs df =>
      obtain ⟨ns, rfl, h1, h2, _⟩ := hv
      obtain ⟨k1, k2⟩ := idx_len (f := one1) (p := p) (vs := ns.map .int) (B := 1) fun v hv q => ⟨Nat.le_refl _, fun x hx => by
        obtain ⟨i, _, rfl⟩ := List.mem_map.mp hv
        rw [List.mem_singleton.mp hx]; exact scal_int _ _⟩
      refine ⟨?_, fun x hx => ?_⟩
      · show (lenF p _ :: idxF one1 p _ _).length ≤ (Item.arr nm w sg c rs df).wt
        rw [List.length_cons, Item.wt]
        rw [List.length_map] at *
        omega
      · rcases List.mem_cons.mp hx with rfl | hx
        · exact scal_int _ _
        · exact k2 x hx
    | lst nm c its' =>
      obtain ⟨rows, rfl, h1, h2, h3⟩ := hv
      obtain ⟨k1, k2⟩ := idx_len (f := rowT (F its')) (p := p) (vs := rows.map .tup) (B := Item.wts its') fun v hv q => by
        obtain ⟨r, hr, rfl⟩ := List.mem_map.mp hv
        exact hF its' r q hi.2.2 (h3 r hr)
      refine ⟨?_, fun x hx => ?_⟩
      · show (lenF p _ :: idxF _ p _ _).length ≤ (Item.lst nm c its').wt
        rw [List.length_cons, Item.wt]
        rw [List.length_map] at *
        have : rows.length * Item.wts its' ≤ c.hi.toNat * Item.wts its' := Nat.mul_le_mul_right _ (by omega)
        omega
      · rcases List.mem_cons.mp hx with rfl | hx
        · exact scal_int _ _
        · exact k2 x hx
    | cho nm w cs =>
      obtain ⟨c, r, hc, rfl, hr⟩ := hv
      rw [vF_cho F _ k nm w p r hi.2.1.2 hc]
      have hh := hF c.its r (p ++ S' ".value") (hi.2.2.2 c hc).2.2.2 hr
      refine ⟨?_, fun x hx => ?_⟩
      · have := case_wt hc
        show _ ≤ (Item.cho nm w cs).wt
        rw [List.length_cons, Item.wt]; omega
      · rcases List.mem_cons.mp hx with rfl | hx
        · exact scal_str _ _
        · exact hh.2 x hx
    | rcd nm its' =>
      obtain ⟨r, rfl, hr⟩ := hv
      have := hF its' r p hi.2 hr
      show (F its' r p).length ≤ (Item.rcd nm its').wt ∧ _
      rw [Item.wt]; exact this
theorem row_len : ∀ d : Nat, RowLen (rF d) (Lay d) (RowP d)
  | 0 => fun its row p hL hR => by
    have hv : ∀ m ∈ mbrs its, ∀ v, ValP (fun _ _ => False) m v → ∀ p, (vF (fun _ _ _ => []) m v p).length ≤ m.wt ∧ ∀ x ∈ vF (fun _ _ _ => []) m v p, Scal x := fun m hm v h p => vF_len (L := fun _ => False) (R := fun _ _ => False) (F := fun _ _ _ => []) (fun _ _ _ h => h.elim) hL.2 hm h p
    refine ⟨Nat.le_trans (all2_flat (fun m v => vF (fun _ _ _ => []) m v (inP p m.nmS)) hR fun m hm v h => (hv m hm v h _).1) (wt_mbrs its), fun x hx => ?_⟩
    obtain ⟨q, hq, hx⟩ := List.mem_flatMap.mp hx
    have h1 := (List.of_mem_zip (a := q.1) (b := q.2) hq).1
    have h2 := all2_zip hR hq
    exact (hv q.1 h1 q.2 h2 _).2 x hx
  | n + 1 => fun its row p hL hR => by
    have hv : ∀ m ∈ mbrs its, ∀ v, ValP (RowP n) m v → ∀ p, (vF (rF n) m v p).length ≤ m.wt ∧ ∀ x ∈ vF (rF n) m v p, Scal x := fun m hm v h p => vF_len (row_len n) hL.2 hm h p
    refine ⟨Nat.le_trans (all2_flat (fun m v => vF (rF n) m v (inP p m.nmS)) hR fun m hm v h => (hv m hm v h _).1) (wt_mbrs its), fun x hx => ?_⟩
    obtain ⟨q, hq, hx⟩ := List.mem_flatMap.mp hx
    have h1 := (List.of_mem_zip (a := q.1) (b := q.2) hq).1
    have h2 := all2_zip hR hq
    exact (hv q.1 h1 q.2 h2 _).2 x hx
theorem flat_take {α : Type} (f : α → List D) (l : List α) (j : Nat) : ((l.take j).flatMap f).length ≤ (l.flatMap f).length := by
  have : l.flatMap f = (l.take j).flatMap f ++ (l.drop j).flatMap f := by rw [← List.flatMap_append, List.take_append_drop]
  rw [this, List.length_append]; omega
theorem idx_take (f : D → Str → List D) (p : Str) (vs : List D) {j n : Nat} (h : j ≤ n) : (idxF f p vs j).length ≤ (idxF f p vs n).length := by
  obtain ⟨m, rfl⟩ : ∃ m, n = j + m := ⟨n - j, by omega⟩
  unfold idxF
  rw [List.range_add, List.flatMap_append, List.length_append]; omega
theorem idx_snoc (f : D → Str → List D) (p : Str) {vs : List D} {j : Nat} {v : D} (h : vs[j]? = some v) : idxF f p vs (j + 1) = idxF f p vs j ++ f v (ixP p j) := by
  unfold idxF
  rw [List.range_succ, List.flatMap_append, List.flatMap_cons, List.flatMap_nil, List.append_nil, h]; rfl
end MP

/-! MP: the facts of a row: the program. -/
namespace MP
open PySem L2
/- wrap: 0 item 1 element -/
def F_wrap (I : Ix) : Fn := ⟨2, [false, false], [
  .ite (.cmp .eq (.ix (.var 0) (.int 0)) (.str "array")) [
    .ret (.tup [.var 1])] [],
  .ret (.var 1)]⟩
/- case_named: 0 item 1 name 2 case -/
def F_case_named (I : Ix) : Fn := ⟨3, [false, false], [
  .for_ (.v 2) (.ix (.var 0) (.int 3)) [
    .ite (.cmp .eq (.ix (.var 2) (.int 1)) (.var 1)) [
      .ret (.var 2)] []],
  .ret .non]⟩
/- inside: 0 path 1 name -/
def F_inside (I : Ix) : Fn := ⟨2, [false, false], [
  .ite (.or (.cmp .eq (.var 0) (.str "")) (.cmp .eq (.var 1) (.str ""))) [
    .ret (.bin .add (.var 0) (.var 1))] [],
  .ret (.bin .add (.bin .add (.var 0) (.str ".")) (.var 1))]⟩
/- facts_of_value: 0 slot 1 value 2 path 3  4 item 5 part 6 case 7 found 8 index 9 element -/
def F_facts_of_value (I : Ix) : Fn := ⟨10, [false, false, false], [
  .asgT [.v 3, .v 4, .v 5] (.var 0),
  .ite (.cmp .isnot (.var 5) .non) [
    .ret (.lst [.tup [.var 2, .var 1]])] [],
  .ite (.cmp .eq (.ix (.var 4) (.int 0)) (.str "record")) [
    .ret (.call I.facts_inside [.ix (.var 4) (.int 2), .var 1, .var 2])] [],
  .ite (.cmp .eq (.ix (.var 4) (.int 0)) (.str "choice")) [
    .asg 6 (.call I.case_named [.var 4, .ix (.var 1) (.int 0)]),
    .ret (.bin .add (.lst [.tup [.bin .add (.var 2) (.str ".case"), .ix (.var 1) (.int 0)]]) (.call I.facts_inside [.ix (.var 6) (.int 2), .ix (.var 1) (.int 1), .bin .add (.var 2) (.str ".value")]))] [],
  .asg 7 (.lst [.tup [.bin .add (.var 2) (.str ".length"), .bi .len [.var 1]]]),
  .for_ (.tup [.v 8, .v 9]) (.enu (.var 1)) [
    .ex (.ext 7 (.call I.facts_inside [.call I.element_layout [.var 4], .call I.wrap [.var 4, .var 9], .fs [.var 2, .str "[", .var 8, .str "]"]]))],
  .ret (.var 7)]⟩
/- facts_inside: 0 layout 1 record 2 path 3 found 4 slot 5 value -/
def F_facts_inside (I : Ix) : Fn := ⟨6, [false, false, false], [
  .asg 3 (.lst []),
  .for_ (.tup [.v 4, .v 5]) (.zip [.call I.slots [.var 0], .var 1]) [
    .ex (.ext 3 (.call I.facts_of_value [.var 4, .var 5, .call I.inside [.var 2, .ix (.var 4) (.int 0)]]))],
  .ret (.var 3)]⟩
/- facts_of: 0 layout 1 record -/
def F_facts_of (I : Ix) : Fn := ⟨2, [false, false], [
  .ret (.call I.facts_inside [.var 0, .var 1, .str ""])]⟩
structure Fc (P : Prg) (I : Ix) : Prop where
  element_layout : P.fns[I.element_layout]? = some (F_element_layout I)
  wrap : P.fns[I.wrap]? = some (F_wrap I)
  case_named : P.fns[I.case_named]? = some (F_case_named I)
  inside : P.fns[I.inside]? = some (F_inside I)
  facts_of_value : P.fns[I.facts_of_value]? = some (F_facts_of_value I)
  facts_inside : P.fns[I.facts_inside]? = some (F_facts_inside I)
  facts_of : P.fns[I.facts_of]? = some (F_facts_of I)
theorem Fc.io_element_layout {P : Prg} {I : Ix} (H : Fc P I) : P.io I.element_layout = [false] := io_of H.element_layout
theorem Fc.io_wrap {P : Prg} {I : Ix} (H : Fc P I) : P.io I.wrap = [false, false] := io_of H.wrap
theorem Fc.io_case_named {P : Prg} {I : Ix} (H : Fc P I) : P.io I.case_named = [false, false] := io_of H.case_named
theorem Fc.io_inside {P : Prg} {I : Ix} (H : Fc P I) : P.io I.inside = [false, false] := io_of H.inside
theorem Fc.io_facts_of_value {P : Prg} {I : Ix} (H : Fc P I) : P.io I.facts_of_value = [false, false, false] := io_of H.facts_of_value
theorem Fc.io_facts_inside {P : Prg} {I : Ix} (H : Fc P I) : P.io I.facts_inside = [false, false, false] := io_of H.facts_inside
theorem Fc.io_facts_of {P : Prg} {I : Ix} (H : Fc P I) : P.io I.facts_of = [false, false] := io_of H.facts_of
local macro_rules | `(tactic| wp_walk) => `(tactic| simp -implicitDefEqProofs (disch := first | assumption | omega | (simp only [List.length_cons, List.length_nil, List.length_map, List.length_append]; omega)) only [MP.bnd_ap, MP.bX_ok, MP.thenS_ap, MP.tX_ok, MP.seqS_nx, MP.seqS_rt, MP.seqS_bk, MP.seqS_ct, MP.ret_ap, MP.opt_some, MP.when_true, MP.evB_nil, MP.evB_cons, MP.evS_asg, MP.evS_asgT, MP.evS_aug, MP.evS_setix, MP.evS_par, MP.sets_nil, MP.sets_cons, MP.evS_ex, MP.evS_ite, MP.evS_for, MP.evS_whl, MP.evS_ret, MP.evS_retN, MP.evS_brk, MP.evS_cont, MP.evS_pass, MP.selS_true, MP.selS_false, MP.selM_true, MP.selM_false, MP.slK_ap, MP.itK_ap, MP.tru_ap, MP.fz_ap, MP.var_v, MP.var_t, MP.var_o, MP.var_i, MP.int_v, MP.int_o, MP.str_v, MP.str_o, MP.bl_v, MP.bl_o, MP.bl_t, MP.non_v, MP.non_o, MP.glo_v, MP.glo_o, MP.glo_i, MP.tup_v, MP.tup_o, MP.tup_i, MP.lst_v, MP.lst_o, MP.lst_i, MP.bin_v, MP.bin_o, MP.bin_t, MP.bin_i, MP.negK_int, MP.neg_v, MP.neg_o, MP.not_v, MP.not_t, MP.not_o, MP.isB_bl, MP.and_v, MP.and_t, MP.and_o, MP.or_v, MP.or_t, MP.or_o, MP.cmp_t, MP.cmp_v, MP.cmp_o, MP.cmp2_t, MP.cmp2_v, MP.cmp2_o, MP.ite_v, MP.ite_o, MP.ite_i, MP.kix_v, MP.kix_o, MP.ix_v, MP.ix_o, MP.ix_t, MP.ix_i, MP.sl_v, MP.sl_o, MP.sl_i, MP.rev_v, MP.rev_o, MP.rev_i, MP.revK_t, MP.revK_l, MP.call_v, MP.call_o, MP.call_t, MP.call_i, MP.bi_v, MP.bi_o, MP.bi_t, MP.bi_i, MP.isi_v, MP.isi_o, MP.isi_t, MP.app_v, MP.ext_v, MP.pop_v, MP.pop_o, MP.revm_v, MP.rng_i, MP.dic_v, MP.dic_o, MP.lrng_v, MP.lrng_o, MP.lrng_i, MP.enu_i, MP.lc_v, MP.lc_o, MP.lc_i, MP.evs_nil, MP.evs_cons, MP.vals_nil, MP.vals_cons, MP.opds_nil, MP.opds_cons, MP.rdOs_nil, MP.rdOs_cons, MP.args_nil, MP.args_t, MP.args_f, MP.rdO_at, MP.rdO_sl, MP.d_val, MP.d_own, MP.d_lk, MP.opAt_ap, MP.opAtS_val, MP.opAtS_own, MP.opAtS_lk, MP.cap_ap, MP.capS_some, MP.retV_var, MP.retS_own, MP.retS_val, MP.ownAt_ap, MP.ownS_own, MP.chg_ap, MP.chgS_own, MP.chgO_some, MP.setAt_int, MP.itO_at', MP.itS_own, MP.itS_val, MP.itO_sl', MP.part_nil, MP.part_cons, MP.partK_int, MP.extK_lst, MP.callM_ap, MP.endC_ok, MP.takes_nil, MP.takes_at, MP.takes_sl, MP.backs_at, MP.backs_sl, MP.backs_nil, MP.lent_t, MP.lent_f, MP.lent_n, MP.endF_rt, MP.endF_nx, MP.onFr_nx, MP.onFr_rt, MP.unlk_nil, MP.retV_int, MP.retV_str, MP.retV_bl, MP.retV_non, MP.retV_glo, MP.retV_tup, MP.retV_lst, MP.retV_dic, MP.retV_bin, MP.retV_neg, MP.retV_not, MP.retV_and, MP.retV_or, MP.retV_cmp, MP.retV_cmp2, MP.retV_ite, MP.retV_kix, MP.retV_ix, MP.retV_sl, MP.retV_rev, MP.retV_call, MP.retV_bi, MP.retV_isi, MP.retV_mt, MP.retV_pop, MP.retV_lrng, MP.retV_lc, MP.retV_fs, MP.sl0, MP.sl1, MP.sl2, MP.sl3, MP.sl4, MP.sl5, MP.sl6, MP.sl7, MP.sl8, MP.sl9, MP.sl10, MP.sl11, MP.set0, MP.set1, MP.set2, MP.set3, MP.set4, MP.set5, MP.set6, MP.set7, MP.set8, MP.set9, MP.set10, MP.set11, MP.add_i, MP.sub_i, MP.pow_i, MP.and_i, MP.or_i, MP.xor_i, MP.eq_i, MP.ne_i, MP.lt_i, MP.le_i, MP.gt_i, MP.ge_i, MP.eq_s, MP.ne_s, MP.ix_l, MP.ix_t', MP.len_l, MP.len_t, MP.abs_i, MP.int_i, MP.max_i, MP.min_i, MP.list_l, MP.list_t, MP.list_s, MP.tuple_l, MP.omap_some, MP.obind_some, decide_true, decide_false, MP.tr_bl, MP.isi_ii, MP.isi_ib, MP.turnO_ap, MP.asgT_v, MP.asgT_tup, MP.asgTs_nil, MP.asgTs_cons, MP.forK_ap, MP.lcM_ap, MP.lcStep_ap, MP.wipeF_nil, MP.wipeF_cons, MP.putF_nil, MP.putF_cons, MP.ifsM_nil, MP.ifsM_cons, MP.seqI_l, MP.seqI_t, MP.seqI_s, MP.sEq, MP.atI_0, MP.atI_1, MP.atI_2, MP.atI_3, MP.atI_4, MP.atI_5, MP.atI_6, MP.atI_mapp, MP.atI_m1, MP.sz_if, MP.dlt_t, MP.dlt_f, MP.dle_t, MP.dle_f, MP.beq_t, MP.beq_f, MP.bne_t, MP.bne_f, MP.mul_okr, MP.mul_okl, MP.fdiv_ok, MP.mod_ok, MP.shl1_ok, MP.shl_ok, MP.shr_ok, MP.add_t, MP.add_lo, MP.add_so, MP.app_ok, MP.ext_ok, MP.rng1_ok, MP.rng2_ok, MP.eq_n, MP.ne_n, MP.isN_n, MP.isN_i, MP.isN_s, MP.isN_t, MP.isN_l, MP.isN_b, MP.tr_t, MP.tr_l, MP.tr_i, MP.kix_s, MP.look_c, MP.look_n, MP.ixd, MP.key_i, MP.key_s, MP.dl_c, MP.sum_ii, MP.sum_ss, MP.isi_tt, MP.isi_tl, MP.isi_ts, MP.isi_tb, MP.isi_ti, MP.isi_ll, MP.isi_lt, MP.isi_ss, MP.isi_st, MP.isi_sl, MP.isi_sb, MP.isi_si, MP.isi_is, MP.isi_it, MP.isi_il, MP.isi_bb, MP.isi_bi, MP.isi_bt, MP.isi_blx, MP.isi_nt, MP.isi_nl, MP.isi_nb, MP.isi_ni, MP.isi_ns, MP.eq_b, MP.sl12, MP.sl13, MP.sl14, MP.set12, MP.set13, MP.set14, MP.lc_t, MP.part_mn, MP.part_mc, MP.enuOk_l, MP.enuOk_t, MP.zip_i, MP.zipV_ll, MP.zipV_lt, MP.zipV_tl, MP.zipV_tt, MP.fs_v, MP.fs_o, MP.fsM_n, MP.fsM_c, MP.strOf_s, MP.sl_t, MP.sl_l, MP.mt_v, MP.mt_o, MP.mt_t, MP.mt_i, MP.ty_split, MP.ty_endswith, MP.ty_startswith, MP.ty_join, MP.ty_index, MP.ty_get, MP.csat_ok, MP.tsat_nx, MP.tsat_ct, MP.unlk_c, ↓reduceIte, String.reduceEq, Int.reduceEq, Int.reduceLT, Int.reduceLE, Int.reduceAdd, Int.reduceSub, Int.reduceMul, Int.reduceNeg, Int.reduceToNat, Nat.reduceAdd, Nat.reduceSub, List.length_cons, List.length_nil, Int.one_mul, Bool.not_true, Bool.not_false, Bool.and_true, Bool.true_and, Bool.and_false, Bool.false_and, Bool.or_true, Bool.true_or, Bool.or_false, Bool.false_or, List.isEmpty_cons, List.isEmpty_nil, List.cons_append, List.nil_append, List.append_nil, MP.Fc.io_element_layout, MP.Fc.io_wrap, MP.Fc.io_case_named, MP.Fc.io_inside, MP.Fc.io_facts_of_value, MP.Fc.io_facts_inside, MP.Fc.io_facts_of, MP.Mb.io_fields, MP.Mb.io_slots, MP.Wsz.io_word_size])
local macro_rules | `(tactic| wp_walk using $ts:term,*) => `(tactic| simp -implicitDefEqProofs (disch := first | assumption | omega | (simp only [List.length_cons, List.length_nil, List.length_map, List.length_append]; omega)) only [MP.bnd_ap, MP.bX_ok, MP.thenS_ap, MP.tX_ok, MP.seqS_nx, MP.seqS_rt, MP.seqS_bk, MP.seqS_ct, MP.ret_ap, MP.opt_some, MP.when_true, MP.evB_nil, MP.evB_cons, MP.evS_asg, MP.evS_asgT, MP.evS_aug, MP.evS_setix, MP.evS_par, MP.sets_nil, MP.sets_cons, MP.evS_ex, MP.evS_ite, MP.evS_for, MP.evS_whl, MP.evS_ret, MP.evS_retN, MP.evS_brk, MP.evS_cont, MP.evS_pass, MP.selS_true, MP.selS_false, MP.selM_true, MP.selM_false, MP.slK_ap, MP.itK_ap, MP.tru_ap, MP.fz_ap, MP.var_v, MP.var_t, MP.var_o, MP.var_i, MP.int_v, MP.int_o, MP.str_v, MP.str_o, MP.bl_v, MP.bl_o, MP.bl_t, MP.non_v, MP.non_o, MP.glo_v, MP.glo_o, MP.glo_i, MP.tup_v, MP.tup_o, MP.tup_i, MP.lst_v, MP.lst_o, MP.lst_i, MP.bin_v, MP.bin_o, MP.bin_t, MP.bin_i, MP.negK_int, MP.neg_v, MP.neg_o, MP.not_v, MP.not_t, MP.not_o, MP.isB_bl, MP.and_v, MP.and_t, MP.and_o, MP.or_v, MP.or_t, MP.or_o, MP.cmp_t, MP.cmp_v, MP.cmp_o, MP.cmp2_t, MP.cmp2_v, MP.cmp2_o, MP.ite_v, MP.ite_o, MP.ite_i, MP.kix_v, MP.kix_o, MP.ix_v, MP.ix_o, MP.ix_t, MP.ix_i, MP.sl_v, MP.sl_o, MP.sl_i, MP.rev_v, MP.rev_o, MP.rev_i, MP.revK_t, MP.revK_l, MP.call_v, MP.call_o, MP.call_t, MP.call_i, MP.bi_v, MP.bi_o, MP.bi_t, MP.bi_i, MP.isi_v, MP.isi_o, MP.isi_t, MP.app_v, MP.ext_v, MP.pop_v, MP.pop_o, MP.revm_v, MP.rng_i, MP.dic_v, MP.dic_o, MP.lrng_v, MP.lrng_o, MP.lrng_i, MP.enu_i, MP.lc_v, MP.lc_o, MP.lc_i, MP.evs_nil, MP.evs_cons, MP.vals_nil, MP.vals_cons, MP.opds_nil, MP.opds_cons, MP.rdOs_nil, MP.rdOs_cons, MP.args_nil, MP.args_t, MP.args_f, MP.rdO_at, MP.rdO_sl, MP.d_val, MP.d_own, MP.d_lk, MP.opAt_ap, MP.opAtS_val, MP.opAtS_own, MP.opAtS_lk, MP.cap_ap, MP.capS_some, MP.retV_var, MP.retS_own, MP.retS_val, MP.ownAt_ap, MP.ownS_own, MP.chg_ap, MP.chgS_own, MP.chgO_some, MP.setAt_int, MP.itO_at', MP.itS_own, MP.itS_val, MP.itO_sl', MP.part_nil, MP.part_cons, MP.partK_int, MP.extK_lst, MP.callM_ap, MP.endC_ok, MP.takes_nil, MP.takes_at, MP.takes_sl, MP.backs_at, MP.backs_sl, MP.backs_nil, MP.lent_t, MP.lent_f, MP.lent_n, MP.endF_rt, MP.endF_nx, MP.onFr_nx, MP.onFr_rt, MP.unlk_nil, MP.retV_int, MP.retV_str, MP.retV_bl, MP.retV_non, MP.retV_glo, MP.retV_tup, MP.retV_lst, MP.retV_dic, MP.retV_bin, MP.retV_neg, MP.retV_not, MP.retV_and, MP.retV_or, MP.retV_cmp, MP.retV_cmp2, MP.retV_ite, MP.retV_kix, MP.retV_ix, MP.retV_sl, MP.retV_rev, MP.retV_call, MP.retV_bi, MP.retV_isi, MP.retV_mt, MP.retV_pop, MP.retV_lrng, MP.retV_lc, MP.retV_fs, MP.sl0, MP.sl1, MP.sl2, MP.sl3, MP.sl4, MP.sl5, MP.sl6, MP.sl7, MP.sl8, MP.sl9, MP.sl10, MP.sl11, MP.set0, MP.set1, MP.set2, MP.set3, MP.set4, MP.set5, MP.set6, MP.set7, MP.set8, MP.set9, MP.set10, MP.set11, MP.add_i, MP.sub_i, MP.pow_i, MP.and_i, MP.or_i, MP.xor_i, MP.eq_i, MP.ne_i, MP.lt_i, MP.le_i, MP.gt_i, MP.ge_i, MP.eq_s, MP.ne_s, MP.ix_l, MP.ix_t', MP.len_l, MP.len_t, MP.abs_i, MP.int_i, MP.max_i, MP.min_i, MP.list_l, MP.list_t, MP.list_s, MP.tuple_l, MP.omap_some, MP.obind_some, decide_true, decide_false, MP.tr_bl, MP.isi_ii, MP.isi_ib, MP.turnO_ap, MP.asgT_v, MP.asgT_tup, MP.asgTs_nil, MP.asgTs_cons, MP.forK_ap, MP.lcM_ap, MP.lcStep_ap, MP.wipeF_nil, MP.wipeF_cons, MP.putF_nil, MP.putF_cons, MP.ifsM_nil, MP.ifsM_cons, MP.seqI_l, MP.seqI_t, MP.seqI_s, MP.sEq, MP.atI_0, MP.atI_1, MP.atI_2, MP.atI_3, MP.atI_4, MP.atI_5, MP.atI_6, MP.atI_mapp, MP.atI_m1, MP.sz_if, MP.dlt_t, MP.dlt_f, MP.dle_t, MP.dle_f, MP.beq_t, MP.beq_f, MP.bne_t, MP.bne_f, MP.mul_okr, MP.mul_okl, MP.fdiv_ok, MP.mod_ok, MP.shl1_ok, MP.shl_ok, MP.shr_ok, MP.add_t, MP.add_lo, MP.add_so, MP.app_ok, MP.ext_ok, MP.rng1_ok, MP.rng2_ok, MP.eq_n, MP.ne_n, MP.isN_n, MP.isN_i, MP.isN_s, MP.isN_t, MP.isN_l, MP.isN_b, MP.tr_t, MP.tr_l, MP.tr_i, MP.kix_s, MP.look_c, MP.look_n, MP.ixd, MP.key_i, MP.key_s, MP.dl_c, MP.sum_ii, MP.sum_ss, MP.isi_tt, MP.isi_tl, MP.isi_ts, MP.isi_tb, MP.isi_ti, MP.isi_ll, MP.isi_lt, MP.isi_ss, MP.isi_st, MP.isi_sl, MP.isi_sb, MP.isi_si, MP.isi_is, MP.isi_it, MP.isi_il, MP.isi_bb, MP.isi_bi, MP.isi_bt, MP.isi_blx, MP.isi_nt, MP.isi_nl, MP.isi_nb, MP.isi_ni, MP.isi_ns, MP.eq_b, MP.sl12, MP.sl13, MP.sl14, MP.set12, MP.set13, MP.set14, MP.lc_t, MP.part_mn, MP.part_mc, MP.enuOk_l, MP.enuOk_t, MP.zip_i, MP.zipV_ll, MP.zipV_lt, MP.zipV_tl, MP.zipV_tt, MP.fs_v, MP.fs_o, MP.fsM_n, MP.fsM_c, MP.strOf_s, MP.sl_t, MP.sl_l, MP.mt_v, MP.mt_o, MP.mt_t, MP.mt_i, MP.ty_split, MP.ty_endswith, MP.ty_startswith, MP.ty_join, MP.ty_index, MP.ty_get, MP.csat_ok, MP.tsat_nx, MP.tsat_ct, MP.unlk_c, ↓reduceIte, String.reduceEq, Int.reduceEq, Int.reduceLT, Int.reduceLE, Int.reduceAdd, Int.reduceSub, Int.reduceMul, Int.reduceNeg, Int.reduceToNat, Nat.reduceAdd, Nat.reduceSub, List.length_cons, List.length_nil, Int.one_mul, Bool.not_true, Bool.not_false, Bool.and_true, Bool.true_and, Bool.and_false, Bool.false_and, Bool.or_true, Bool.true_or, Bool.or_false, Bool.false_or, List.isEmpty_cons, List.isEmpty_nil, List.cons_append, List.nil_append, List.append_nil, MP.Fc.io_element_layout, MP.Fc.io_wrap, MP.Fc.io_case_named, MP.Fc.io_inside, MP.Fc.io_facts_of_value, MP.Fc.io_facts_inside, MP.Fc.io_facts_of, MP.Mb.io_fields, MP.Mb.io_slots, MP.Wsz.io_word_size, $[$ts:term],*])
theorem str_nil : Str.ofString "" = Str.empty := rfl
theorem nil_app (x : Str) : Str.empty ++ x = x := by
  cases x with
  | mk c =>
    show Str.mk (#[] ++ c) = _
    rw [Array.empty_append]
theorem app_nil (x : Str) : x ++ Str.empty = x := by
  cases x with
  | mk c =>
    show Str.mk (c ++ #[]) = _
    rw [Array.append_empty]
theorem szS_if {α : Type} {x : Str} {a b : α} (h : x.length ≤ 1000000) : (if x.length ≤ sizeLine then a else b) = a := if_pos (sz_le h)
theorem inP_len (p nm : Str) : (inP p nm).length ≤ p.length + nm.length + 1 := by
  unfold inP
  split
  · rw [str_app_len]; omega
  · rw [str_app_len, str_app_len, show (S' ".").length = 1 by decide +kernel]; omega
theorem inP_ok {p nm : Str} (h : PyData.strOk p = true) (h2 : PyData.strOk nm = true) : PyData.strOk (inP p nm) = true := by
  unfold inP
  split
  · exact str_app_ok h h2
  · exact str_app_ok (str_app_ok h (by decide +kernel)) h2
theorem ixP_len {p : Str} {i : Nat} (h : i < 100) : (ixP p i).length ≤ p.length + 5 := by
  unfold ixP
  have := (str_num2 (i := (i : Int)) (by omega) (by omega)).1.2
  rw [str_app_len, str_app_len, str_app_len, show (S' "[").length = 1 by decide +kernel, show (S' "]").length = 1 by decide +kernel]; omega
theorem ixP_ok {p : Str} {i : Nat} (h : i < 100) (hp : PyData.strOk p = true) : PyData.strOk (ixP p i) = true :=
  str_app_ok (str_app_ok (str_app_ok hp (by decide +kernel)) (str_num2 (i := (i : Int)) (by omega) (by omega)).1.1) (by decide +kernel)
section
variable {P : Prg} {I : Ix} {wn kk : Nat}
theorem Fc.elem (H : Fc P I) (S : Wsz P I) (hd : P.dct[I.d_WORD_SIZES]? = some wsD) (hk : 1 < kk) (nm : Str) (w : Wd) (sg : Bool) (c : Cnt) (rs : Option Rs) (df : Option Int) : callF P wn kk I.element_layout [.val (Item.arr nm w sg c rs df).d] = .ok (.val (lay (elemOf w sg rs df))) [.un] := by
  obtain ⟨k, rfl⟩ : ∃ k, kk = k + 1 := ⟨kk - 1, by omega⟩
  rw [callF_succ P wn k H.element_layout _ rfl]
  unfold F_element_layout
  simp only [List.length_cons, List.length_nil, List.reduceReplicate, Nat.reduceSub, Nat.reduceAdd, List.cons_append, List.nil_append]
  have e := S.word_sz (wn := wn) (kk := k) hd (by omega) w
  wp_walk using Item.d, e
  rfl
theorem Fc.elem2 (H : Fc P I) (hk : 0 < kk) (nm : Str) (c : Cnt) (its : List Item) : callF P wn kk I.element_layout [.val (Item.lst nm c its).d] = .ok (.val (lay its)) [.un] := by
  obtain ⟨k, rfl⟩ : ∃ k, kk = k + 1 := ⟨kk - 1, by omega⟩
  rw [callF_succ P wn k H.element_layout _ rfl]
  unfold F_element_layout
  simp only [List.length_cons, List.length_nil, List.reduceReplicate, Nat.reduceSub, Nat.reduceAdd, List.cons_append, List.nil_append]
  wp_walk using Item.d
  rw [Item.ds_map]; rfl
theorem Fc.wrap1 (H : Fc P I) (hk : 0 < kk) (nm : Str) (w : Wd) (sg : Bool) (c : Cnt) (rs : Option Rs) (df : Option Int) (v : D) : callF P wn kk I.wrap [.val (Item.arr nm w sg c rs df).d, .val v] = .ok (.val (.tup [v])) [.un, .un] := by
  obtain ⟨k, rfl⟩ : ∃ k, kk = k + 1 := ⟨kk - 1, by omega⟩
  rw [callF_succ P wn k H.wrap _ rfl]
  unfold F_wrap
  simp only [List.length_cons, List.length_nil, List.reduceReplicate, Nat.reduceSub, Nat.reduceAdd, List.cons_append, List.nil_append]
  wp_walk using Item.d
theorem Fc.wrap2 (H : Fc P I) (hk : 0 < kk) (nm : Str) (c : Cnt) (its : List Item) (v : D) : callF P wn kk I.wrap [.val (Item.lst nm c its).d, .val v] = .ok (.val v) [.un, .un] := by
  obtain ⟨k, rfl⟩ : ∃ k, kk = k + 1 := ⟨kk - 1, by omega⟩
  rw [callF_succ P wn k H.wrap _ rfl]
  unfold F_wrap
  simp only [List.length_cons, List.length_nil, List.reduceReplicate, Nat.reduceSub, Nat.reduceAdd, List.cons_append, List.nil_append]
  wp_walk using Item.d
theorem Fc.inside_ok (H : Fc P I) (hk : 0 < kk) {p nm : Str} (hp : p.length ≤ 5000) (hn : nm.length ≤ 100) : callF P wn kk I.inside [.val (.str p), .val (.str nm)] = .ok (.val (.str (inP p nm))) [.un, .un] := by
  obtain ⟨k, rfl⟩ : ∃ k, kk = k + 1 := ⟨kk - 1, by omega⟩
  rw [callF_succ P wn k H.inside _ rfl]
  unfold F_inside
  simp only [List.length_cons, List.length_nil, List.reduceReplicate, Nat.reduceSub, Nat.reduceAdd, List.cons_append, List.nil_append]
  have l1 : (p ++ Str.ofString ".").length = p.length + 1 := by rw [str_app_len, show (S' ".").length = 1 by decide +kernel]
  have l2 : (Str.ofString ".").length = 1 := by decide +kernel
  unfold inP
  by_cases c1 : p = Str.ofString ""
  · have c1' : decide (p = Str.ofString "") = true := decide_eq_true c1
    rw [if_pos (.inl c1)]
    wp_walk using c1'
  · have c1' : decide (p = Str.ofString "") = false := decide_eq_false c1
    by_cases c2 : nm = Str.ofString ""
    · have c2' : decide (nm = Str.ofString "") = true := decide_eq_true c2
      rw [if_pos (.inr c2)]
      wp_walk using c1', c2'
    · have c2' : decide (nm = Str.ofString "") = false := decide_eq_false c2
      rw [if_neg (fun h => h.elim c1 c2)]
      wp_walk using c1', c2'
theorem Fc.case_ok (H : Fc P I) (hk : 0 < kk) {nm : Str} {w : Wd} {cs : List Case} {c : Case} (hn : (cs.map Case.nm).Nodup) (hc : c ∈ cs) : callF P wn kk I.case_named [.val (Item.cho nm w cs).d, .val (.str c.nm)] = .ok (.val c.d) [.un, .un] := by
  obtain ⟨k, rfl⟩ : ∃ k, kk = k + 1 := ⟨kk - 1, by omega⟩
  rw [callF_succ P wn k H.case_named _ rfl]
  unfold F_case_named
  simp only [List.length_cons, List.length_nil, List.reduceReplicate, Nat.reduceSub, Nat.reduceAdd, List.cons_append, List.nil_append]
  have key : ∀ (l : List Case) (x0 y : Slot), (l.map Case.nm).Nodup → c ∈ l → forL (asgT (.v 2)) (evB P (callF P wn k) wn [
    .ite (.cmp .eq (.ix (.var 2) (.int 1)) (.var 1)) [
      .ret (.var 2)] []]) (l.map Case.d) [x0, .val (.str c.nm), y] = .rt (.val c.d) [x0, .val (.str c.nm), .val c.d] := by
    intro l
    induction l with
    | nil => intro _ _ _ h; cases h
    | cons d l ih =>
      intro x0 y hn h
      have hn2 : d.nm ∉ l.map Case.nm ∧ (l.map Case.nm).Nodup := List.nodup_cons.mp hn
      have i1 : index d.d (.int 1) = some (.val (.str d.nm)) := by cases d; rfl
      rw [List.map_cons, forL_cons]
      by_cases e : d = c
      · subst e
        have hb : decide (d.nm = d.nm) = true := decide_eq_true rfl
        wp_walk using i1, hb
      · have hc : c ∈ l := by
          rcases List.mem_cons.mp h with h | h
          · exact absurd h.symm e
          · exact h
        have hb : decide (d.nm = c.nm) = false := decide_eq_false fun z => hn2.1 (by rw [z]; exact List.mem_map_of_mem hc)
        wp_walk using i1, hb
        exact ih x0 _ hn2.2 hc
  have hS : seqI (D.tup (Case.ds cs)) = some (cs.map Case.d) := by rw [Case.ds_map]; rfl
  wp_walk using Item.d, hS, key cs _ _ hn hc
theorem Fc.facts_elem (H : Fc P I) (M : Mb P I) (S : Wsz P I) (hd : P.dct[I.d_WORD_SIZES]? = some wsD) (hg : P.glo[I.g_COMPOSITES]? = some compD) (hk : 4 < kk) (w : Wd) (sg : Bool) (rs : Option Rs) (df : Option Int) (v : D) {p : Str} (hp : p.length ≤ 5000) :
    callF P wn kk I.facts_inside [.val (lay (elemOf w sg rs df)), .val (.tup [v]), .val (.str p)] = .ok (.own (one1 v p)) [.un, .un, .un] := by
  obtain ⟨k, rfl⟩ : ∃ k, kk = k + 1 := ⟨kk - 1, by omega⟩
  rw [callF_succ P wn k H.facts_inside _ rfl]
  unfold F_facts_inside
  simp only [List.length_cons, List.length_nil, List.reduceReplicate, Nat.reduceSub, Nat.reduceAdd, List.cons_append, List.nil_append]
  have e := M.slots_core S hd hg (wn := wn) (kk := k) (by omega) (its := elemOf w sg rs df) ⟨show 1 ≤ 10 by decide, fun i hi => by
    have hi := List.mem_singleton.mp hi
    subst hi
    exact ⟨show 1 ≤ 32 by decide, fun w' ps e => by cases e; exact (show 1 ≤ 32 by decide)⟩⟩
  have e2 := H.inside_ok (wn := wn) (kk := k) (by omega) (p := p) (nm := Str.empty) hp (by decide)
  have e3 : inP p Str.empty = p := by
    unfold inP
    rw [if_pos (.inr rfl)]
    exact app_nil p
  rw [e3] at e2
  have e4 : (mbrs (elemOf w sg rs df)).map Mbr.d = [D.tup [.str Str.empty, (Item.word w [⟨some Str.empty, 8 * w.sz, sg, rs, df⟩]).d, (Part.mk (some Str.empty) (8 * w.sz) sg rs df).d]] := rfl
  rw [e4] at e
  have e5 : callF P wn k I.facts_of_value [.val (D.tup [.str Str.empty, (Item.word w [⟨some Str.empty, 8 * w.sz, sg, rs, df⟩]).d, (Part.mk (some Str.empty) (8 * w.sz) sg rs df).d]), .val v, .val (.str p)] = .ok (.own (one1 v p)) [.un, .un, .un] := by
    obtain ⟨k', rfl⟩ : ∃ k', k = k' + 1 := ⟨k - 1, by omega⟩
    rw [callF_succ P wn k' H.facts_of_value _ rfl]
    unfold F_facts_of_value
    simp only [List.length_cons, List.length_nil, List.reduceReplicate, Nat.reduceSub, Nat.reduceAdd, List.cons_append, List.nil_append]
    wp_walk using Part.d, one1
  have z1 : zip2I [D.tup [.str Str.empty, (Item.word w [⟨some Str.empty, 8 * w.sz, sg, rs, df⟩]).d, (Part.mk (some Str.empty) (8 * w.sz) sg rs df).d]] [v] = [D.tup [D.tup [.str Str.empty, (Item.word w [⟨some Str.empty, 8 * w.sz, sg, rs, df⟩]).d, (Part.mk (some Str.empty) (8 * w.sz) sg rs df).d], v]] := rfl
  have n1 : ∀ fr : Fr, forL (asgT (.tup [.v 4, .v 5])) (evB P (callF P wn k) wn [
    .ex (.ext 3 (.call I.facts_of_value [.var 4, .var 5, .call I.inside [.var 2, .ix (.var 4) (.int 0)]]))]) [] fr = .nx fr := fun _ => rfl
  have l1 : (one1 v p).length = 1 := rfl
  wp_walk using e, z1, forL_cons, e2, e5, extK_lst, l1, n1
theorem mem_le_sum {m : Mbr} {l : List Mbr} (h : m ∈ l) : m.wt ≤ (l.map Mbr.wt).sum := by
  induction l with
  | nil => cases h
  | cons a l ih =>
    rw [List.map_cons, List.sum_cons]
    rcases List.mem_cons.mp h with rfl | h
    · omega
    · have := ih h; omega
def FacC (P : Prg) (I : Ix) (wn d : Nat) : Prop := ∀ (kk : Nat) (its : List Item) (row : List D) (p : Str), 2 * d + 6 < kk → Lay d its → RowP d its row → Item.wts its ≤ 100000 → PyData.strOk p = true → p.length + 100 * d ≤ 4000 →
  callF P wn kk I.facts_inside [.val (lay its), .val (.tup row), .val (.str p)] = .ok (.own (rF d its row p)) [.un, .un, .un]
theorem mbr_ok {n : Nat} {its : List Item} (hL : Lay n its) {m : Mbr} (hm : m ∈ mbrs its) : NmOk m.nmS ∧ index m.d (.int 0) = some (.val (.str m.nmS)) ∧ m.nmD = .str m.nmS := by
  have h := hm
  unfold mbrs at h
  obtain ⟨i, hi, h⟩ := List.mem_flatMap.mp h
  have hok := hL.all i hi
  cases i with
  | word w ps =>
    obtain ⟨l, q, rfl, h1, h2⟩ := fieldsV_int _ _ _ _ h
    obtain ⟨x, hx⟩ := Option.isSome_iff_exists.mp h1
    have e : (Mbr.int l q (.word w ps)).nmS = x := by show q.nm.getD _ = x; rw [hx]; rfl
    rw [e]
    refine ⟨(hok.2.1 q h2).1 x hx, ?_, ?_⟩
    · show some (Slot.val (oD .str q.nm)) = _
      rw [hx]; rfl
    · show oD .str q.nm = _
      rw [hx]; rfl
  | lit bs => cases h
  | res m => cases h
  | chk x => cases h
  | arr nm w sg c rs df => rw [List.mem_singleton.mp h]; exact ⟨hok.1, rfl, rfl⟩
  | lst nm c its => rw [List.mem_singleton.mp h]; exact ⟨hok.1, rfl, rfl⟩
  | cho nm w cs => rw [List.mem_singleton.mp h]; exact ⟨hok.1, rfl, rfl⟩
  | rcd nm its => rw [List.mem_singleton.mp h]; exact ⟨hok.1, rfl, rfl⟩
theorem rG_len : ∀ d : Nat, RowLen (rG d) (LayP d) (RowQ d)
  | 0 => fun _ _ _ h => h.elim
  | n + 1 => row_len n
theorem enu_at {vs : List D} {j : Nat} {d : D} (h : (enuI 0 vs)[j]? = some d) : ∃ v, vs[j]? = some v ∧ d = .tup [.int (j : Int), v] := by
  have hj : j < vs.length := by
    have := (List.getElem?_eq_some_iff.mp h).1
    rwa [enuI_len] at this
  have e := enuI_get vs 0 j vs[j] (List.getElem?_eq_getElem hj)
  rw [e] at h
  exact ⟨vs[j], List.getElem?_eq_getElem hj, by rw [← Option.some.inj h, Int.zero_add]⟩
/-- an element's place as a text -/
theorem fs_ix {p : Str} {j : Nat} (hj : j < 100) : strOf (.int (j : Int)) = some (iS j) := (str_num2 (i := (j : Int)) (by omega) (by omega)).2.2
theorem Fc.fov (H : Fc P I) (M : Mb P I) (S : Wsz P I) (hd : P.dct[I.d_WORD_SIZES]? = some wsD) (hg : P.glo[I.g_COMPOSITES]? = some compD) {d : Nat} (IH : ∀ e, d = e + 1 → FacC P I wn e) (hk : 2 * d + 5 < kk) {its : List Item} (hL : Lay d its) (hw : Item.wts its ≤ 100000) {m : Mbr} (hm : m ∈ mbrs its) {v : D} (hv : ValP (RowQ d) m v) {p : Str} (hp : PyData.strOk p = true) (hpl : p.length + 100 * d ≤ 4050) :
    callF P wn kk I.facts_of_value [.val m.d, .val v, .val (.str p)] = .ok (.own (vF (rG d) m v p)) [.un, .un, .un] := by
  suffices h : CSat (callF P wn kk I.facts_of_value [.val m.d, .val v, .val (.str p)]) fun s ps => s = .own (vF (rG d) m v p) ∧ ps = [.un, .un, .un] by
    obtain ⟨s, ps, e, rfl, rfl⟩ := h.get; exact e
  obtain ⟨k, rfl⟩ : ∃ k, kk = k + 1 := ⟨kk - 1, by omega⟩
  rw [callF_succ P wn k H.facts_of_value _ rfl]
  unfold F_facts_of_value
  simp only [List.length_cons, List.length_nil, List.reduceReplicate, Nat.reduceSub, Nat.reduceAdd, List.cons_append, List.nil_append]
  have inner : ∀ (its' : List Item) (r : List D) (q : Str), LayP d its' → RowQ d its' r → Item.wts its' ≤ 100000 → PyData.strOk q = true → q.length + 100 * d ≤ 4100 → callF P wn k I.facts_inside [.val (lay its'), .val (.tup r), .val (.str q)] = .ok (.own (rG d its' r q)) [.un, .un, .un] := fun its' r q h1 h2 h3 h4 h5 => by
    cases d with
    | zero => exact h1.elim
    | succ e => exact IH e rfl k its' r q (by omega) h1 h2 h3 h4 (by omega)
  have bound := (vF_len (rG_len d) hL.all hm hv p).1
  have hwm : m.wt ≤ 100000 := by
    have h1 := wt_mbrs its
    have h2 : m.wt ≤ ((mbrs its).map Mbr.wt).sum := mem_le_sum hm
    omega
  have e1 : ∀ its' : List Item, D.tup (Item.ds its') = lay its' := fun its' => by rw [Item.ds_map]; rfl
  cases m with
  | int l q it =>
    wp_walk using Mbr.d, Part.d
    refine ⟨?_, ?_⟩ <;> first | rfl | trivial
  | com nm0 kd it =>
    have hi := hL.all it (mbr_it hm)
    cases it with
    | word w ps => exact hv.elim
    | lit bs => exact hv.elim
    | res m => exact hv.elim
    | chk x => exact hv.elim
    | rcd nm its' =>
      obtain ⟨r, rfl, hr⟩ := hv
      have e := inner its' r p hi.2 hr (by have : (Item.rcd nm its').wt = Item.wts its' := by rw [Item.wt]
                                           have h2 : (Item.rcd nm its').wt ≤ 100000 := hwm
                                           omega) hp (by omega)
      wp_walk using Mbr.d, Item.d, e1, e
      refine ⟨?_, ?_⟩ <;> first | rfl | trivial
    | cho nm w cs =>
      obtain ⟨c, r, hc, rfl, hr⟩ := hv
      have q1 : (p ++ Str.ofString ".case").length = p.length + 5 := by rw [str_app_len, show (S' ".case").length = 5 by decide +kernel]
      have q2 : (Str.ofString ".case").length = 5 := by decide +kernel
      have q3 : (p ++ Str.ofString ".value").length = p.length + 6 := by rw [str_app_len, show (S' ".value").length = 6 by decide +kernel]
      have q4 : (Str.ofString ".value").length = 6 := by decide +kernel
      have hwc := case_wt hc
      have hw2 : 1 + Case.wts cs ≤ 100000 := by
        have h2 : (Item.cho nm w cs).wt ≤ 100000 := hwm
        rw [Item.wt] at h2; exact h2
      have e := inner c.its r (p ++ Str.ofString ".value") (hi.2.2.2 c hc).2.2.2 hr (by omega) (str_app_ok hp (by decide +kernel)) (by omega)
      have hl := (rG_len d c.its r (p ++ Str.ofString ".value") (hi.2.2.2 c hc).2.2.2 hr).1
      have ec := H.case_ok (wn := wn) (kk := k) (by omega) (nm := nm) (w := w) hi.2.1.2 hc
      have i2 : index c.d (.int 2) = some (.val (lay c.its)) := by cases c; rw [Case.d, Item.ds_map]; rfl
      have hL1 : (rG d c.its r (p ++ Str.ofString ".value")).length ≤ 100000 := by omega
      rw [vF_cho (rG d) nm0 kd nm w p r hi.2.1.2 hc]
      rw [Item.d] at ec
      wp_walk using Mbr.d, Item.d, ec, i2, e
      refine ⟨?_, ?_⟩ <;> first | rfl | trivial
    | arr nm w sg c rs df =>
      obtain ⟨ns, rfl, h1, h2, _⟩ := hv
      have hcb := cnt_b hi.2.1
      have q1 : (p ++ Str.ofString ".length").length = p.length + 7 := by rw [str_app_len, show (S' ".length").length = 7 by decide +kernel]
      have q2 : (Str.ofString ".length").length = 7 := by decide +kernel
      have ee := H.elem S hd (wn := wn) (kk := k) (by omega) nm w sg c rs df
      have ew := H.wrap1 (wn := wn) (kk := k) (by omega) nm w sg c rs df
      have ef := H.facts_elem M S hd hg (wn := wn) (kk := k) (by omega) w sg rs df
      have hlen : (ns.map D.int).length = ns.length := List.length_map ..
      have b2 : (lenF p (ns.map D.int) :: idxF one1 p (ns.map D.int) (ns.map D.int).length).length ≤ 100000 := Nat.le_trans bound hwm
      rw [List.length_cons] at b2
      generalize ns.map D.int = vs at *
      wp_walk using Mbr.d, Item.d
      refine for_t (G := fun z => CSat (endF _ (qX _ (onFr _ z))) _) (fun j fr => ∃ y8 y9 : Slot, fr = [.val (Mbr.com nm0 kd (.arr nm w sg c rs df)).d, .val (.tup vs), .val (.str p), .val (.str nm0), .val (Item.arr nm w sg c rs df).d, .val .non, .un, .own (lenF p vs :: idxF one1 p vs j), y8, y9]) ⟨_, _, rfl⟩ ?_ ?_
      · rintro j x fr hj ⟨y8, y9, rfl⟩
        obtain ⟨v, hv, rfl⟩ := enu_at hj
        have hj2 := (List.getElem?_eq_some_iff.mp hv).1
        have f1 := fs_ix (p := p) (j := j) (by omega)
        have f2 : ((p ++ Str.ofString "[") ++ iS j) ++ Str.ofString "]" = ixP p j := rfl
        have f3 := ixP_len (p := p) (i := j) (by omega)
        have f4 : (p ++ Str.ofString "[").length = p.length + 1 := by rw [str_app_len, show (S' "[").length = 1 by decide +kernel]
        have f5 : (Str.ofString "[").length ≤ 1 := by decide +kernel
        have f6 : (Str.ofString "]").length ≤ 1 := by decide +kernel
        have f7 := (str_num2 (i := (j : Int)) (by omega) (by omega)).1.2
        have f8 : ((p ++ Str.ofString "[") ++ iS j).length ≤ p.length + 4 := by rw [str_app_len, f4]; omega
        have g1 := idx_take one1 p vs (Nat.succ_le_of_lt hj2)
        rw [idx_snoc _ _ hv] at g1 ⊢
        rw [List.length_append] at g1
        have ef1 := ef v (p := ixP p j) (by omega)
        wp_walk using ee, ew, nil_app, szS_if, f1, f2, ef1, extK_lst
        exact ⟨_, _, rfl⟩
      · rintro fr ⟨y8, y9, rfl⟩
        rw [enuI_len]
        wp_walk
        refine ⟨?_, ?_⟩ <;> first | rfl | trivial
    | lst nm c its' =>
      obtain ⟨rows, rfl, h1, h2, hR⟩ := hv
      have hcb := cnt_b hi.2.1
      have q1 : (p ++ Str.ofString ".length").length = p.length + 7 := by rw [str_app_len, show (S' ".length").length = 7 by decide +kernel]
      have q2 : (Str.ofString ".length").length = 7 := by decide +kernel
      have ee := H.elem2 (wn := wn) (kk := k) (by omega) nm c its'
      have ew := H.wrap2 (wn := wn) (kk := k) (by omega) nm c its'
      have hlen : (rows.map D.tup).length = rows.length := List.length_map ..
      have b2 : (lenF p (rows.map D.tup) :: idxF (rowT (rG d its')) p (rows.map D.tup) (rows.map D.tup).length).length ≤ 100000 := Nat.le_trans bound hwm
      rw [List.length_cons] at b2
      have hvs : ∀ v ∈ rows.map D.tup, ∃ r, v = .tup r ∧ RowQ d its' r := fun v hv => by
        obtain ⟨r, hr, rfl⟩ := List.mem_map.mp hv
        exact ⟨r, rfl, hR r hr⟩
      have hw3 : rows.length = 0 ∨ Item.wts its' ≤ 100000 := by
        have h3 : (Item.lst nm c its').wt ≤ 100000 := hwm
        rw [Item.wt] at h3
        by_cases z : rows.length = 0
        · exact .inl z
        · refine .inr ?_
          have : 1 * Item.wts its' ≤ c.hi.toNat * Item.wts its' := Nat.mul_le_mul_right _ (by omega)
          omega
      generalize rows.map D.tup = vs at *
      wp_walk using Mbr.d, Item.d
      refine for_t (G := fun z => CSat (endF _ (qX _ (onFr _ z))) _) (fun j fr => ∃ y8 y9 : Slot, fr = [.val (Mbr.com nm0 kd (.lst nm c its')).d, .val (.tup vs), .val (.str p), .val (.str nm0), .val (Item.lst nm c its').d, .val .non, .un, .own (lenF p vs :: idxF (rowT (rG d its')) p vs j), y8, y9]) ⟨_, _, rfl⟩ ?_ ?_
      · rintro j x fr hj ⟨y8, y9, rfl⟩
        obtain ⟨v, hv, rfl⟩ := enu_at hj
        have hj2 := (List.getElem?_eq_some_iff.mp hv).1
        have f1 := fs_ix (p := p) (j := j) (by omega)
        have f2 : ((p ++ Str.ofString "[") ++ iS j) ++ Str.ofString "]" = ixP p j := rfl
        have f3 := ixP_len (p := p) (i := j) (by omega)
        have f4 : (p ++ Str.ofString "[").length = p.length + 1 := by rw [str_app_len, show (S' "[").length = 1 by decide +kernel]
        have f5 : (Str.ofString "[").length ≤ 1 := by decide +kernel
        have f6 : (Str.ofString "]").length ≤ 1 := by decide +kernel
        have f7 := (str_num2 (i := (j : Int)) (by omega) (by omega)).1.2
        have f8 : ((p ++ Str.ofString "[") ++ iS j).length ≤ p.length + 4 := by rw [str_app_len, f4]; omega
        have g1 := idx_take (rowT (rG d its')) p vs (Nat.succ_le_of_lt hj2)
        rw [idx_snoc _ _ hv] at g1 ⊢
        rw [List.length_append] at g1
        obtain ⟨r, rfl, hr⟩ := hvs v (List.mem_of_getElem? hv)
        have ef1 := inner its' r (ixP p j) hi.2.2 hr (by omega) (ixP_ok (by omega) hp) (by omega)
        have g2 : (idxF (rowT (rG d its')) p vs j).length + (rG d its' r (ixP p j)).length ≤ (idxF (rowT (rG d its')) p vs vs.length).length := g1
        wp_walk using ee, ew, nil_app, szS_if, f1, f2, ef1, extK_lst
        exact ⟨_, _, rfl⟩
      · rintro fr ⟨y8, y9, rfl⟩
        rw [enuI_len]
        wp_walk
        refine ⟨?_, ?_⟩ <;> first | rfl | trivial
theorem Fc.step (H : Fc P I) (M : Mb P I) (S : Wsz P I) (hd : P.dct[I.d_WORD_SIZES]? = some wsD) (hg : P.glo[I.g_COMPOSITES]? = some compD) {d : Nat} (IH : ∀ e, d = e + 1 → FacC P I wn e) : FacC P I wn d := by
  intro kk its row p hk hL hR hw hp hpl
  suffices h : CSat (callF P wn kk I.facts_inside [.val (lay its), .val (.tup row), .val (.str p)]) fun s ps => s = .own (rF d its row p) ∧ ps = [.un, .un, .un] by
    obtain ⟨s, ps, e, rfl, rfl⟩ := h.get; exact e
  obtain ⟨k, rfl⟩ : ∃ k, kk = k + 1 := ⟨kk - 1, by omega⟩
  rw [callF_succ P wn k H.facts_inside _ rfl]
  unfold F_facts_inside
  simp only [List.length_cons, List.length_nil, List.reduceReplicate, Nat.reduceSub, Nat.reduceAdd, List.cons_append, List.nil_append]
  have e := M.slots_ok S hd hg (wn := wn) (kk := k) (by omega) hL
  have hz : zip2I ((mbrs its).map Mbr.d) row = ((mbrs its).zip row).map fun q => D.tup [q.1.d, q.2] := by
    have := zip2_map Mbr.d (fun x : D => x) (mbrs its) row
    rwa [List.map_id'] at this
  have bound := ((row_len d) its row p hL hR).1
  rw [rF_eq] at bound ⊢
  wp_walk using e, hz
  refine for_t (G := fun z => CSat (endF _ (qX _ (onFr _ z))) _) (fun j fr => ∃ y4 y5 : Slot, fr = [.val (lay its), .val (.tup row), .val (.str p), .own ((((mbrs its).zip row).take j).flatMap fun q => vF (rG d) q.1 q.2 (inP p q.1.nmS)), y4, y5]) ⟨_, _, rfl⟩ ?_ ?_
  · rintro j x fr hj ⟨y4, y5, rfl⟩
    obtain ⟨q, hq, rfl⟩ := map_ix hj
    have hqm := List.mem_of_getElem? hq
    have hm := (List.of_mem_zip (a := q.1) (b := q.2) hqm).1
    have hv := all2_zip hR.all hqm
    obtain ⟨n1, n2, _⟩ := mbr_ok hL hm
    have n3 := n1.2.1
    have e1 := H.inside_ok (wn := wn) (kk := k) (by omega) (p := p) (nm := q.1.nmS) (by omega) (by omega)
    have l1 := inP_len p q.1.nmS
    have e2 := H.fov M S hd hg IH (kk := k) (by omega) hL hw hm hv (p := inP p q.1.nmS) (inP_ok hp n1.1) (by omega)
    have g1 := flat_take (fun q : Mbr × D => vF (rG d) q.1 q.2 (inP p q.1.nmS)) ((mbrs its).zip row) (j + 1)
    rw [take_snoc hq, List.flatMap_append, List.flatMap_cons, List.flatMap_nil, List.append_nil] at g1 ⊢
    rw [List.length_append] at g1
    wp_walk using n2, e1, e2, extK_lst
    exact ⟨_, _, rfl⟩
  · rintro fr ⟨y4, y5, rfl⟩
    rw [List.length_map, List.take_length]
    wp_walk
    refine ⟨?_, ?_⟩ <;> first | rfl | trivial
/-- THE PROGRAM'S FACTS -/
theorem Fc.facts (H : Fc P I) (M : Mb P I) (S : Wsz P I) (hd : P.dct[I.d_WORD_SIZES]? = some wsD) (hg : P.glo[I.g_COMPOSITES]? = some compD) : ∀ d : Nat, FacC P I wn d
  | 0 => H.step M S hd hg fun e z => by cases z
  | d + 1 => H.step M S hd hg fun e z => by cases z; exact H.facts M S hd hg d
theorem Fc.of_ok (H : Fc P I) (M : Mb P I) (S : Wsz P I) (hd : P.dct[I.d_WORD_SIZES]? = some wsD) (hg : P.glo[I.g_COMPOSITES]? = some compD) {d : Nat} {its : List Item} {row : List D} (hk : 2 * d + 7 < kk) (h1 : Lay d its) (h2 : RowP d its row) (h3 : Item.wts its ≤ 100000) (h4 : d ≤ 30) :
    callF P wn kk I.facts_of [.val (lay its), .val (.tup row)] = .ok (.own (rF d its row (Str.ofString ""))) [.un, .un] := by
  obtain ⟨k, rfl⟩ : ∃ k, kk = k + 1 := ⟨kk - 1, by omega⟩
  rw [callF_succ P wn k H.facts_of _ rfl]
  unfold F_facts_of
  simp only [List.length_cons, List.length_nil, List.reduceReplicate, Nat.reduceSub, Nat.reduceAdd, List.cons_append, List.nil_append]
  have l0 : (Str.ofString "").length = 0 := by decide +kernel
  have e := H.facts M S hd hg (wn := wn) d k its row (Str.ofString "") (by omega) h1 h2 h3 (by decide +kernel) (by omega)
  wp_walk using e
end
end MP

/-! MP: the facts of a row: the law. -/
namespace MP
open PySem L2
/- law_facts: 0 items 1 row 2 path 3 found 4 kinds_here 5 k 6 here -/
def F_law_facts (I : Ix) : Fn := ⟨7, [false, false, false], [
  .asg 3 (.lst []),
  .asg 4 (.call I.law_kinds [.var 0]),
  .for_ (.v 5) (.rng [.bi .len [.var 4]]) [
    .asg 6 (.ite (.cmp .eq (.var 2) (.str "")) (.ix (.ix (.var 4) (.var 5)) (.int 1)) (.bin .add (.bin .add (.var 2) (.str ".")) (.ix (.ix (.var 4) (.var 5)) (.int 1)))),
    .asg 3 (.bin .add (.var 3) (.call I.law_facts_in [.ix (.var 4) (.var 5), .ix (.var 1) (.var 5), .var 6]))],
  .ret (.var 3)]⟩
/- law_facts_in: 0 kind 1 thing 2 path 3 inside 4 case 5 found 6 i 7 here -/
def F_law_facts_in (I : Ix) : Fn := ⟨8, [false, false, false], [
  .ite (.cmp .eq (.ix (.var 0) (.int 0)) (.str "integer")) [
    .ret (.lst [.tup [.var 2, .var 1]])] [],
  .ite (.cmp .eq (.ix (.var 0) (.int 0)) (.str "record")) [
    .ret (.call I.law_facts [.ix (.var 0) (.int 2), .var 1, .var 2])] [],
  .ite (.cmp .eq (.ix (.var 0) (.int 0)) (.str "choice")) [
    .asg 3 (.lc (.ix (.var 4) (.int 2)) (.v 4) (.ix (.var 0) (.int 2)) [.cmp .eq (.ix (.var 4) (.int 1)) (.ix (.var 1) (.int 0))] [4]),
    .ret (.bin .add (.lst [.tup [.bin .add (.var 2) (.str ".case"), .ix (.var 1) (.int 0)]]) (.call I.law_facts [.ix (.var 3) (.int 0), .ix (.var 1) (.int 1), .bin .add (.var 2) (.str ".value")]))] [],
  .asg 5 (.lst [.tup [.bin .add (.var 2) (.str ".length"), .bi .len [.var 1]]]),
  .for_ (.v 6) (.rng [.bi .len [.var 1]]) [
    .asg 7 (.bin .add (.bin .add (.bin .add (.var 2) (.str "[")) (.bi .str [.var 6])) (.str "]")),
    .asg 5 (.bin .add (.var 5) (.ite (.cmp .eq (.ix (.var 0) (.int 0)) (.str "array")) (.lst [.tup [.var 7, .ix (.var 1) (.var 6)]]) (.call I.law_facts [.ix (.var 0) (.int 3), .ix (.var 1) (.var 6), .var 7])))],
  .ret (.var 5)]⟩
structure Lf (P : Prg) (I : Ix) : Prop where
  law_facts : P.fns[I.law_facts]? = some (F_law_facts I)
  law_facts_in : P.fns[I.law_facts_in]? = some (F_law_facts_in I)
theorem Lf.io_law_facts {P : Prg} {I : Ix} (H : Lf P I) : P.io I.law_facts = [false, false, false] := io_of H.law_facts
theorem Lf.io_law_facts_in {P : Prg} {I : Ix} (H : Lf P I) : P.io I.law_facts_in = [false, false, false] := io_of H.law_facts_in
/- law_same: 0 told 1 due 2 k -/
def F_law_same_o (I : Ix) : Fn := ⟨3, [true, false], [
  .ite (.or (.isi .tuple (.var 1)) (.isi .list (.var 1))) [
    .ite (.and (.isi .tuple (.var 1)) (.not (.isi .tuple (.var 0)))) [
      .ret (.bl false)] [],
    .ite (.and (.isi .list (.var 1)) (.not (.isi .list (.var 0)))) [
      .ret (.bl false)] [],
    .ite (.cmp .ne (.bi .len [.var 0]) (.bi .len [.var 1])) [
      .ret (.bl false)] [],
    .for_ (.v 2) (.rng [.bi .len [.var 1]]) [
      .ite (.not (.call I.law_same [.ix (.var 0) (.var 2), .ix (.var 1) (.var 2)])) [
        .ret (.bl false)] []],
    .ret (.bl true)] [],
  .ite (.cmp .is (.var 1) .non) [
    .ret (.cmp .is (.var 0) .non)] [],
  .ite (.isi .bool (.var 1)) [
    .ret (.and (.isi .bool (.var 0)) (.cmp .eq (.var 0) (.var 1)))] [],
  .ite (.isi .str (.var 1)) [
    .ret (.and (.isi .str (.var 0)) (.cmp .eq (.var 0) (.var 1)))] [],
  .ret (.and (.isi .int (.var 0)) (.and (.not (.isi .bool (.var 0))) (.cmp .eq (.var 0) (.var 1))))]⟩
structure Smo (P : Prg) (I : Ix) : Prop where
  law_same : P.fns[I.law_same]? = some (F_law_same_o I)
theorem Smo.io_law_same {P : Prg} {I : Ix} (H : Smo P I) : P.io I.law_same = [true, false] := io_of H.law_same
local macro_rules | `(tactic| wp_walk) => `(tactic| simp -implicitDefEqProofs (disch := first | assumption | omega | (simp only [List.length_cons, List.length_nil, List.length_map, List.length_append]; omega)) only [MP.bnd_ap, MP.bX_ok, MP.thenS_ap, MP.tX_ok, MP.seqS_nx, MP.seqS_rt, MP.seqS_bk, MP.seqS_ct, MP.ret_ap, MP.opt_some, MP.when_true, MP.evB_nil, MP.evB_cons, MP.evS_asg, MP.evS_asgT, MP.evS_aug, MP.evS_setix, MP.evS_par, MP.sets_nil, MP.sets_cons, MP.evS_ex, MP.evS_ite, MP.evS_for, MP.evS_whl, MP.evS_ret, MP.evS_retN, MP.evS_brk, MP.evS_cont, MP.evS_pass, MP.selS_true, MP.selS_false, MP.selM_true, MP.selM_false, MP.slK_ap, MP.itK_ap, MP.tru_ap, MP.fz_ap, MP.var_v, MP.var_t, MP.var_o, MP.var_i, MP.int_v, MP.int_o, MP.str_v, MP.str_o, MP.bl_v, MP.bl_o, MP.bl_t, MP.non_v, MP.non_o, MP.glo_v, MP.glo_o, MP.glo_i, MP.tup_v, MP.tup_o, MP.tup_i, MP.lst_v, MP.lst_o, MP.lst_i, MP.bin_v, MP.bin_o, MP.bin_t, MP.bin_i, MP.negK_int, MP.neg_v, MP.neg_o, MP.not_v, MP.not_t, MP.not_o, MP.isB_bl, MP.and_v, MP.and_t, MP.and_o, MP.or_v, MP.or_t, MP.or_o, MP.cmp_t, MP.cmp_v, MP.cmp_o, MP.cmp2_t, MP.cmp2_v, MP.cmp2_o, MP.ite_v, MP.ite_o, MP.ite_i, MP.kix_v, MP.kix_o, MP.ix_v, MP.ix_o, MP.ix_t, MP.ix_i, MP.sl_v, MP.sl_o, MP.sl_i, MP.rev_v, MP.rev_o, MP.rev_i, MP.revK_t, MP.revK_l, MP.call_v, MP.call_o, MP.call_t, MP.call_i, MP.bi_v, MP.bi_o, MP.bi_t, MP.bi_i, MP.isi_v, MP.isi_o, MP.isi_t, MP.app_v, MP.ext_v, MP.pop_v, MP.pop_o, MP.revm_v, MP.rng_i, MP.dic_v, MP.dic_o, MP.lrng_v, MP.lrng_o, MP.lrng_i, MP.enu_i, MP.lc_v, MP.lc_o, MP.lc_i, MP.evs_nil, MP.evs_cons, MP.vals_nil, MP.vals_cons, MP.opds_nil, MP.opds_cons, MP.rdOs_nil, MP.rdOs_cons, MP.args_nil, MP.args_t, MP.args_f, MP.rdO_at, MP.rdO_sl, MP.d_val, MP.d_own, MP.d_lk, MP.opAt_ap, MP.opAtS_val, MP.opAtS_own, MP.opAtS_lk, MP.cap_ap, MP.capS_some, MP.retV_var, MP.retS_own, MP.retS_val, MP.ownAt_ap, MP.ownS_own, MP.chg_ap, MP.chgS_own, MP.chgO_some, MP.setAt_int, MP.itO_at', MP.itS_own, MP.itS_val, MP.itO_sl', MP.part_nil, MP.part_cons, MP.partK_int, MP.extK_lst, MP.callM_ap, MP.endC_ok, MP.takes_nil, MP.takes_at, MP.takes_sl, MP.backs_at, MP.backs_sl, MP.backs_nil, MP.lent_t, MP.lent_f, MP.lent_n, MP.endF_rt, MP.endF_nx, MP.onFr_nx, MP.onFr_rt, MP.unlk_nil, MP.retV_int, MP.retV_str, MP.retV_bl, MP.retV_non, MP.retV_glo, MP.retV_tup, MP.retV_lst, MP.retV_dic, MP.retV_bin, MP.retV_neg, MP.retV_not, MP.retV_and, MP.retV_or, MP.retV_cmp, MP.retV_cmp2, MP.retV_ite, MP.retV_kix, MP.retV_ix, MP.retV_sl, MP.retV_rev, MP.retV_call, MP.retV_bi, MP.retV_isi, MP.retV_mt, MP.retV_pop, MP.retV_lrng, MP.retV_lc, MP.retV_fs, MP.sl0, MP.sl1, MP.sl2, MP.sl3, MP.sl4, MP.sl5, MP.sl6, MP.sl7, MP.sl8, MP.sl9, MP.sl10, MP.sl11, MP.set0, MP.set1, MP.set2, MP.set3, MP.set4, MP.set5, MP.set6, MP.set7, MP.set8, MP.set9, MP.set10, MP.set11, MP.add_i, MP.sub_i, MP.pow_i, MP.and_i, MP.or_i, MP.xor_i, MP.eq_i, MP.ne_i, MP.lt_i, MP.le_i, MP.gt_i, MP.ge_i, MP.eq_s, MP.ne_s, MP.ix_l, MP.ix_t', MP.len_l, MP.len_t, MP.abs_i, MP.int_i, MP.max_i, MP.min_i, MP.list_l, MP.list_t, MP.list_s, MP.tuple_l, MP.omap_some, MP.obind_some, decide_true, decide_false, MP.tr_bl, MP.isi_ii, MP.isi_ib, MP.turnO_ap, MP.asgT_v, MP.asgT_tup, MP.asgTs_nil, MP.asgTs_cons, MP.forK_ap, MP.lcM_ap, MP.lcStep_ap, MP.wipeF_nil, MP.wipeF_cons, MP.putF_nil, MP.putF_cons, MP.ifsM_nil, MP.ifsM_cons, MP.seqI_l, MP.seqI_t, MP.seqI_s, MP.sEq, MP.atI_0, MP.atI_1, MP.atI_2, MP.atI_3, MP.atI_4, MP.atI_5, MP.atI_6, MP.atI_mapp, MP.atI_m1, MP.sz_if, MP.dlt_t, MP.dlt_f, MP.dle_t, MP.dle_f, MP.beq_t, MP.beq_f, MP.bne_t, MP.bne_f, MP.mul_okr, MP.mul_okl, MP.fdiv_ok, MP.mod_ok, MP.shl1_ok, MP.shl_ok, MP.shr_ok, MP.add_t, MP.add_lo, MP.add_so, MP.app_ok, MP.ext_ok, MP.rng1_ok, MP.rng2_ok, MP.eq_n, MP.ne_n, MP.isN_n, MP.isN_i, MP.isN_s, MP.isN_t, MP.isN_l, MP.isN_b, MP.tr_t, MP.tr_l, MP.tr_i, MP.kix_s, MP.look_c, MP.look_n, MP.ixd, MP.key_i, MP.key_s, MP.dl_c, MP.sum_ii, MP.sum_ss, MP.isi_tt, MP.isi_tl, MP.isi_ts, MP.isi_tb, MP.isi_ti, MP.isi_ll, MP.isi_lt, MP.isi_ss, MP.isi_st, MP.isi_sl, MP.isi_sb, MP.isi_si, MP.isi_is, MP.isi_it, MP.isi_il, MP.isi_bb, MP.isi_bi, MP.isi_bt, MP.isi_blx, MP.isi_nt, MP.isi_nl, MP.isi_nb, MP.isi_ni, MP.isi_ns, MP.eq_b, MP.sl12, MP.sl13, MP.sl14, MP.set12, MP.set13, MP.set14, MP.lc_t, MP.part_mn, MP.part_mc, MP.enuOk_l, MP.enuOk_t, MP.zip_i, MP.zipV_ll, MP.zipV_lt, MP.zipV_tl, MP.zipV_tt, MP.fs_v, MP.fs_o, MP.fsM_n, MP.fsM_c, MP.strOf_s, MP.sl_t, MP.sl_l, MP.mt_v, MP.mt_o, MP.mt_t, MP.mt_i, MP.ty_split, MP.ty_endswith, MP.ty_startswith, MP.ty_join, MP.ty_index, MP.ty_get, MP.csat_ok, MP.tsat_nx, MP.tsat_ct, MP.unlk_c, ↓reduceIte, String.reduceEq, Int.reduceEq, Int.reduceLT, Int.reduceLE, Int.reduceAdd, Int.reduceSub, Int.reduceMul, Int.reduceNeg, Int.reduceToNat, Nat.reduceAdd, Nat.reduceSub, List.length_cons, List.length_nil, Int.one_mul, Bool.not_true, Bool.not_false, Bool.and_true, Bool.true_and, Bool.and_false, Bool.false_and, Bool.or_true, Bool.true_or, Bool.or_false, Bool.false_or, List.isEmpty_cons, List.isEmpty_nil, List.cons_append, List.nil_append, List.append_nil, MP.Lf.io_law_facts, MP.Lf.io_law_facts_in, MP.Kd.io_law_kinds, MP.Rich.io_law_tape, MP.Rich.io_law_draw, MP.Rich.io_law_name, MP.Rich.io_law_runs, MP.Rich.io_law_size, MP.Rich.io_law_any_word, MP.Rich.io_law_a_count, MP.Rich.io_law_a_field, MP.Rich.io_law_ranges, MP.Rich.io_law_a_number, MP.Rich.io_law_part, MP.Rich.io_law_case_numbers, MP.Rich.io_law_not_empty, MP.Rich.io_law_rich, MP.Rich.io_law_rich_item, MP.Rich.io_law_fixed, MP.Rich.io_law_rich_word, MP.Rich.io_law_rich_choice, MP.Smo.io_law_same])
local macro_rules | `(tactic| wp_walk using $ts:term,*) => `(tactic| simp -implicitDefEqProofs (disch := first | assumption | omega | (simp only [List.length_cons, List.length_nil, List.length_map, List.length_append]; omega)) only [MP.bnd_ap, MP.bX_ok, MP.thenS_ap, MP.tX_ok, MP.seqS_nx, MP.seqS_rt, MP.seqS_bk, MP.seqS_ct, MP.ret_ap, MP.opt_some, MP.when_true, MP.evB_nil, MP.evB_cons, MP.evS_asg, MP.evS_asgT, MP.evS_aug, MP.evS_setix, MP.evS_par, MP.sets_nil, MP.sets_cons, MP.evS_ex, MP.evS_ite, MP.evS_for, MP.evS_whl, MP.evS_ret, MP.evS_retN, MP.evS_brk, MP.evS_cont, MP.evS_pass, MP.selS_true, MP.selS_false, MP.selM_true, MP.selM_false, MP.slK_ap, MP.itK_ap, MP.tru_ap, MP.fz_ap, MP.var_v, MP.var_t, MP.var_o, MP.var_i, MP.int_v, MP.int_o, MP.str_v, MP.str_o, MP.bl_v, MP.bl_o, MP.bl_t, MP.non_v, MP.non_o, MP.glo_v, MP.glo_o, MP.glo_i, MP.tup_v, MP.tup_o, MP.tup_i, MP.lst_v, MP.lst_o, MP.lst_i, MP.bin_v, MP.bin_o, MP.bin_t, MP.bin_i, MP.negK_int, MP.neg_v, MP.neg_o, MP.not_v, MP.not_t, MP.not_o, MP.isB_bl, MP.and_v, MP.and_t, MP.and_o, MP.or_v, MP.or_t, MP.or_o, MP.cmp_t, MP.cmp_v, MP.cmp_o, MP.cmp2_t, MP.cmp2_v, MP.cmp2_o, MP.ite_v, MP.ite_o, MP.ite_i, MP.kix_v, MP.kix_o, MP.ix_v, MP.ix_o, MP.ix_t, MP.ix_i, MP.sl_v, MP.sl_o, MP.sl_i, MP.rev_v, MP.rev_o, MP.rev_i, MP.revK_t, MP.revK_l, MP.call_v, MP.call_o, MP.call_t, MP.call_i, MP.bi_v, MP.bi_o, MP.bi_t, MP.bi_i, MP.isi_v, MP.isi_o, MP.isi_t, MP.app_v, MP.ext_v, MP.pop_v, MP.pop_o, MP.revm_v, MP.rng_i, MP.dic_v, MP.dic_o, MP.lrng_v, MP.lrng_o, MP.lrng_i, MP.enu_i, MP.lc_v, MP.lc_o, MP.lc_i, MP.evs_nil, MP.evs_cons, MP.vals_nil, MP.vals_cons, MP.opds_nil, MP.opds_cons, MP.rdOs_nil, MP.rdOs_cons, MP.args_nil, MP.args_t, MP.args_f, MP.rdO_at, MP.rdO_sl, MP.d_val, MP.d_own, MP.d_lk, MP.opAt_ap, MP.opAtS_val, MP.opAtS_own, MP.opAtS_lk, MP.cap_ap, MP.capS_some, MP.retV_var, MP.retS_own, MP.retS_val, MP.ownAt_ap, MP.ownS_own, MP.chg_ap, MP.chgS_own, MP.chgO_some, MP.setAt_int, MP.itO_at', MP.itS_own, MP.itS_val, MP.itO_sl', MP.part_nil, MP.part_cons, MP.partK_int, MP.extK_lst, MP.callM_ap, MP.endC_ok, MP.takes_nil, MP.takes_at, MP.takes_sl, MP.backs_at, MP.backs_sl, MP.backs_nil, MP.lent_t, MP.lent_f, MP.lent_n, MP.endF_rt, MP.endF_nx, MP.onFr_nx, MP.onFr_rt, MP.unlk_nil, MP.retV_int, MP.retV_str, MP.retV_bl, MP.retV_non, MP.retV_glo, MP.retV_tup, MP.retV_lst, MP.retV_dic, MP.retV_bin, MP.retV_neg, MP.retV_not, MP.retV_and, MP.retV_or, MP.retV_cmp, MP.retV_cmp2, MP.retV_ite, MP.retV_kix, MP.retV_ix, MP.retV_sl, MP.retV_rev, MP.retV_call, MP.retV_bi, MP.retV_isi, MP.retV_mt, MP.retV_pop, MP.retV_lrng, MP.retV_lc, MP.retV_fs, MP.sl0, MP.sl1, MP.sl2, MP.sl3, MP.sl4, MP.sl5, MP.sl6, MP.sl7, MP.sl8, MP.sl9, MP.sl10, MP.sl11, MP.set0, MP.set1, MP.set2, MP.set3, MP.set4, MP.set5, MP.set6, MP.set7, MP.set8, MP.set9, MP.set10, MP.set11, MP.add_i, MP.sub_i, MP.pow_i, MP.and_i, MP.or_i, MP.xor_i, MP.eq_i, MP.ne_i, MP.lt_i, MP.le_i, MP.gt_i, MP.ge_i, MP.eq_s, MP.ne_s, MP.ix_l, MP.ix_t', MP.len_l, MP.len_t, MP.abs_i, MP.int_i, MP.max_i, MP.min_i, MP.list_l, MP.list_t, MP.list_s, MP.tuple_l, MP.omap_some, MP.obind_some, decide_true, decide_false, MP.tr_bl, MP.isi_ii, MP.isi_ib, MP.turnO_ap, MP.asgT_v, MP.asgT_tup, MP.asgTs_nil, MP.asgTs_cons, MP.forK_ap, MP.lcM_ap, MP.lcStep_ap, MP.wipeF_nil, MP.wipeF_cons, MP.putF_nil, MP.putF_cons, MP.ifsM_nil, MP.ifsM_cons, MP.seqI_l, MP.seqI_t, MP.seqI_s, MP.sEq, MP.atI_0, MP.atI_1, MP.atI_2, MP.atI_3, MP.atI_4, MP.atI_5, MP.atI_6, MP.atI_mapp, MP.atI_m1, MP.sz_if, MP.dlt_t, MP.dlt_f, MP.dle_t, MP.dle_f, MP.beq_t, MP.beq_f, MP.bne_t, MP.bne_f, MP.mul_okr, MP.mul_okl, MP.fdiv_ok, MP.mod_ok, MP.shl1_ok, MP.shl_ok, MP.shr_ok, MP.add_t, MP.add_lo, MP.add_so, MP.app_ok, MP.ext_ok, MP.rng1_ok, MP.rng2_ok, MP.eq_n, MP.ne_n, MP.isN_n, MP.isN_i, MP.isN_s, MP.isN_t, MP.isN_l, MP.isN_b, MP.tr_t, MP.tr_l, MP.tr_i, MP.kix_s, MP.look_c, MP.look_n, MP.ixd, MP.key_i, MP.key_s, MP.dl_c, MP.sum_ii, MP.sum_ss, MP.isi_tt, MP.isi_tl, MP.isi_ts, MP.isi_tb, MP.isi_ti, MP.isi_ll, MP.isi_lt, MP.isi_ss, MP.isi_st, MP.isi_sl, MP.isi_sb, MP.isi_si, MP.isi_is, MP.isi_it, MP.isi_il, MP.isi_bb, MP.isi_bi, MP.isi_bt, MP.isi_blx, MP.isi_nt, MP.isi_nl, MP.isi_nb, MP.isi_ni, MP.isi_ns, MP.eq_b, MP.sl12, MP.sl13, MP.sl14, MP.set12, MP.set13, MP.set14, MP.lc_t, MP.part_mn, MP.part_mc, MP.enuOk_l, MP.enuOk_t, MP.zip_i, MP.zipV_ll, MP.zipV_lt, MP.zipV_tl, MP.zipV_tt, MP.fs_v, MP.fs_o, MP.fsM_n, MP.fsM_c, MP.strOf_s, MP.sl_t, MP.sl_l, MP.mt_v, MP.mt_o, MP.mt_t, MP.mt_i, MP.ty_split, MP.ty_endswith, MP.ty_startswith, MP.ty_join, MP.ty_index, MP.ty_get, MP.csat_ok, MP.tsat_nx, MP.tsat_ct, MP.unlk_c, ↓reduceIte, String.reduceEq, Int.reduceEq, Int.reduceLT, Int.reduceLE, Int.reduceAdd, Int.reduceSub, Int.reduceMul, Int.reduceNeg, Int.reduceToNat, Nat.reduceAdd, Nat.reduceSub, List.length_cons, List.length_nil, Int.one_mul, Bool.not_true, Bool.not_false, Bool.and_true, Bool.true_and, Bool.and_false, Bool.false_and, Bool.or_true, Bool.true_or, Bool.or_false, Bool.false_or, List.isEmpty_cons, List.isEmpty_nil, List.cons_append, List.nil_append, List.append_nil, MP.Lf.io_law_facts, MP.Lf.io_law_facts_in, MP.Kd.io_law_kinds, MP.Rich.io_law_tape, MP.Rich.io_law_draw, MP.Rich.io_law_name, MP.Rich.io_law_runs, MP.Rich.io_law_size, MP.Rich.io_law_any_word, MP.Rich.io_law_a_count, MP.Rich.io_law_a_field, MP.Rich.io_law_ranges, MP.Rich.io_law_a_number, MP.Rich.io_law_part, MP.Rich.io_law_case_numbers, MP.Rich.io_law_not_empty, MP.Rich.io_law_rich, MP.Rich.io_law_rich_item, MP.Rich.io_law_fixed, MP.Rich.io_law_rich_word, MP.Rich.io_law_rich_choice, MP.Smo.io_law_same, $[$ts:term],*])
section
variable {P : Prg} {I : Ix} {wn kk : Nat}
def LfC (P : Prg) (I : Ix) (wn d : Nat) : Prop := ∀ (kk : Nat) (its : List Item) (row : List D) (p : Str), 2 * d + 6 < kk → Lay d its → RowP d its row → Item.wts its ≤ 100000 → PyData.strOk p = true → p.length + 100 * d ≤ 4000 →
  callF P wn kk I.law_facts [.val (lay its), .val (.tup row), .val (.str p)] = .ok (.own (rF d its row p)) [.un, .un, .un]
theorem Lf.fin (H : Lf P I) {d : Nat} (IH : ∀ e, d = e + 1 → LfC P I wn e) (hk : 2 * d + 5 < kk) {its : List Item} (hL : Lay d its) (hw : Item.wts its ≤ 100000) {m : Mbr} (hm : m ∈ mbrs its) {v : D} (hv : ValP (RowQ d) m v) {p : Str} (hp : PyData.strOk p = true) (hpl : p.length + 100 * d ≤ 4050) :
    callF P wn kk I.law_facts_in [.val m.kd, .val v, .val (.str p)] = .ok (.own (vF (rG d) m v p)) [.un, .un, .un] := by
  suffices h : CSat (callF P wn kk I.law_facts_in [.val m.kd, .val v, .val (.str p)]) fun s ps => s = .own (vF (rG d) m v p) ∧ ps = [.un, .un, .un] by
    obtain ⟨s, ps, e, rfl, rfl⟩ := h.get; exact e
  obtain ⟨k, rfl⟩ : ∃ k, kk = k + 1 := ⟨kk - 1, by omega⟩
  rw [callF_succ P wn k H.law_facts_in _ rfl]
  unfold F_law_facts_in
  simp only [List.length_cons, List.length_nil, List.reduceReplicate, Nat.reduceSub, Nat.reduceAdd, List.cons_append, List.nil_append]
  have inner : ∀ (its' : List Item) (r : List D) (q : Str), LayP d its' → RowQ d its' r → Item.wts its' ≤ 100000 → PyData.strOk q = true → q.length + 100 * d ≤ 4100 → callF P wn k I.law_facts [.val (lay its'), .val (.tup r), .val (.str q)] = .ok (.own (rG d its' r q)) [.un, .un, .un] := fun its' r q h1 h2 h3 h4 h5 => by
    cases d with
    | zero => exact h1.elim
    | succ e => exact IH e rfl k its' r q (by omega) h1 h2 h3 h4 (by omega)
  have bound := (vF_len (rG_len d) hL.all hm hv p).1
  have hwm : m.wt ≤ 100000 := by
    have h1 := wt_mbrs its
    have h2 : m.wt ≤ ((mbrs its).map Mbr.wt).sum := mem_le_sum hm
    omega
  have e1 : ∀ its' : List Item, D.tup (Item.ds its') = lay its' := fun its' => by rw [Item.ds_map]; rfl
  have n1 : ∀ (p : Str) {j : Nat}, j < 100 → p.length ≤ 5000 → ∃ (h1 : (((p ++ Str.ofString "[") ++ iS j) ++ Str.ofString "]" = ixP p j) ∧ (ixP p j).length ≤ p.length + 5 ∧ (p ++ Str.ofString "[").length ≤ p.length + 1) , (Str.ofString "[").length ≤ 1 ∧ (Str.ofString "]").length ≤ 1 ∧ (iS (j : Int)).length ≤ 3 ∧ ((p ++ Str.ofString "[") ++ iS j).length ≤ p.length + 4 ∧ bi .str [.int (j : Int)] = some (.val (.str (iS j))) := fun p j hj hp => by
    have f4 : (p ++ Str.ofString "[").length = p.length + 1 := by rw [str_app_len, show (S' "[").length = 1 by decide +kernel]
    have f7 := str_num2 (i := (j : Int)) (by omega) (by omega)
    have f71 := f7.1.2
    exact ⟨⟨rfl, ixP_len hj, by omega⟩, by decide +kernel, by decide +kernel, f71, by rw [str_app_len, f4]; omega, f7.2.1⟩
  cases m with
  | int l q it =>
    wp_walk using Mbr.kd
    refine ⟨?_, ?_⟩ <;> first | rfl | trivial
  | com nm0 kd it =>
    have hi := hL.all it (mbr_it hm)
    cases it with
    | word w ps => exact hv.elim
    | lit bs => exact hv.elim
    | res m => exact hv.elim
    | chk x => exact hv.elim
    | rcd nm its' =>
      obtain ⟨r, rfl, hr⟩ := hv
      have e := inner its' r p hi.2 hr (by have : (Item.rcd nm its').wt = Item.wts its' := by rw [Item.wt]
                                           have h2 : (Item.rcd nm its').wt ≤ 100000 := hwm
                                           omega) hp (by omega)
      wp_walk using Mbr.kd, Item.d, e1, e
      refine ⟨?_, ?_⟩ <;> first | rfl | trivial
    | cho nm w cs =>
      obtain ⟨c, r, hc, rfl, hr⟩ := hv
      have q1 : (p ++ Str.ofString ".case").length = p.length + 5 := by rw [str_app_len, show (S' ".case").length = 5 by decide +kernel]
      have q2 : (Str.ofString ".case").length = 5 := by decide +kernel
      have q3 : (p ++ Str.ofString ".value").length = p.length + 6 := by rw [str_app_len, show (S' ".value").length = 6 by decide +kernel]
      have q4 : (Str.ofString ".value").length = 6 := by decide +kernel
      have hwc := case_wt hc
      have hw2 : 1 + Case.wts cs ≤ 100000 := by
        have h2 : (Item.cho nm w cs).wt ≤ 100000 := hwm
        rw [Item.wt] at h2; exact h2
      have e := inner c.its r (p ++ Str.ofString ".value") (hi.2.2.2 c hc).2.2.2 hr (by omega) (str_app_ok hp (by decide +kernel)) (by omega)
      have hl := (rG_len d c.its r (p ++ Str.ofString ".value") (hi.2.2.2 c hc).2.2.2 hr).1
      have hL1 : (rG d c.its r (p ++ Str.ofString ".value")).length ≤ 100000 := by omega
      have ef : (cs.flatMap fun x => if decide (x.nm = c.nm) then [lay x.its] else []) = [lay c.its] := by
        rw [flat_filter (fun x => decide (x.nm = c.nm)) (fun x : Case => lay x.its), case_filter hi.2.1.2 hc]; rfl
      have el := lc_flat cs Case.d (fun x => if decide (x.nm = c.nm) then [lay x.its] else []) (own := [4]) (tgt := asgT (.v 4)) (ifs := ifsM [ev P (callF P wn k) (.cmp .eq (.ix (.var 4) (.int 1)) (.ix (.var 1) (.int 0)))]) (el := bnd (fz (ev P (callF P wn k) (.ix (.var 4) (.int 2))).v) fun d => ret [d])
        (fr := [.val (.tup [.str (Str.ofString "choice"), .str nm, .tup (Case.ds cs)]), .val (.tup [.str c.nm, .tup r]), .val (.str p), .un, .un, .un, .un, .un]) (lk := []) (fun x _ => by
          have i1 : index x.d (.int 1) = some (.val (.str x.nm)) := by cases x; rfl
          have i2 : index x.d (.int 2) = some (.val (lay x.its)) := by cases x; rw [Case.d, Item.ds_map]; rfl
          cases hb : decide (x.nm = c.nm) with
          | true =>
            wp_walk using i1, i2, hb
            exact ⟨_, rfl, rfl⟩
          | false =>
            wp_walk using i1, i2, hb
            exact ⟨_, rfl, rfl⟩) (by rw [ef]; exact (show 1 ≤ 1000000 by decide))
      rw [ef] at el
      have hS : seqI (D.tup (Case.ds cs)) = some (cs.map Case.d) := by rw [Case.ds_map]; rfl
      rw [vF_cho (rG d) nm0 kd nm w p r hi.2.1.2 hc]
      wp_walk using Mbr.kd, hS, el, e
      refine ⟨?_, ?_⟩ <;> first | rfl | trivial
    | arr nm w sg c rs df =>
      obtain ⟨ns, rfl, h1, h2, _⟩ := hv
      have hcb := cnt_b hi.2.1
      have q1 : (p ++ Str.ofString ".length").length = p.length + 7 := by rw [str_app_len, show (S' ".length").length = 7 by decide +kernel]
      have q2 : (Str.ofString ".length").length = 7 := by decide +kernel
      have hlen : (ns.map D.int).length = ns.length := List.length_map ..
      have b2 : (lenF p (ns.map D.int) :: idxF one1 p (ns.map D.int) (ns.map D.int).length).length ≤ 100000 := Nat.le_trans bound hwm
      rw [List.length_cons] at b2
      generalize ns.map D.int = vs at *
      have en : ((vs.length : Int)).toNat = vs.length := by omega
      wp_walk using Mbr.kd, en
      refine for_t (G := fun z => CSat (endF _ (qX _ (onFr _ z))) _) (fun j fr => ∃ y6 y7 : Slot, fr = [.val (Mbr.com nm0 kd (.arr nm w sg c rs df)).kd, .val (.tup vs), .val (.str p), .un, .un, .own (lenF p vs :: idxF one1 p vs j), y6, y7]) ⟨_, _, rfl⟩ ?_ ?_
      · rintro j x fr hj ⟨y8, y9, rfl⟩
        obtain ⟨hj2, rfl⟩ := upto_at hj
        rw [Int.zero_add]
        obtain ⟨⟨f2, f3, f4⟩, f5, f6, f7, f8, f9⟩ := n1 p (j := j) (by omega) (by omega)
        have hv : vs[j]? = some vs[j] := List.getElem?_eq_getElem hj2
        have hat : atI vs (j : Int) = some vs[j] := by have := atI_nat hj2; rwa [Int.zero_add] at this
        have g1 := idx_take one1 p vs (Nat.succ_le_of_lt hj2)
        rw [idx_snoc _ _ hv] at g1 ⊢
        rw [List.length_append] at g1
        have l1 : (one1 vs[j] (ixP p j)).length = 1 := rfl
        wp_walk using Mbr.kd, f9, f2, hat
        exact ⟨_, _, rfl⟩
      · rintro fr ⟨y8, y9, rfl⟩
        rw [upto_len]
        wp_walk
        refine ⟨?_, ?_⟩ <;> first | rfl | trivial
    | lst nm c its' =>
      obtain ⟨rows, rfl, h1, h2, hR⟩ := hv
      have hcb := cnt_b hi.2.1
      have q1 : (p ++ Str.ofString ".length").length = p.length + 7 := by rw [str_app_len, show (S' ".length").length = 7 by decide +kernel]
      have q2 : (Str.ofString ".length").length = 7 := by decide +kernel
      have hlen : (rows.map D.tup).length = rows.length := List.length_map ..
      have b2 : (lenF p (rows.map D.tup) :: idxF (rowT (rG d its')) p (rows.map D.tup) (rows.map D.tup).length).length ≤ 100000 := Nat.le_trans bound hwm
      rw [List.length_cons] at b2
      have hvs : ∀ v ∈ rows.map D.tup, ∃ r, v = .tup r ∧ RowQ d its' r := fun v hv => by
        obtain ⟨r, hr, rfl⟩ := List.mem_map.mp hv
        exact ⟨r, rfl, hR r hr⟩
      have hw3 : rows.length = 0 ∨ Item.wts its' ≤ 100000 := by
        have h3 : (Item.lst nm c its').wt ≤ 100000 := hwm
        rw [Item.wt] at h3
        by_cases z : rows.length = 0
        · exact .inl z
        · refine .inr ?_
          have : 1 * Item.wts its' ≤ c.hi.toNat * Item.wts its' := Nat.mul_le_mul_right _ (by omega)
          omega
      generalize rows.map D.tup = vs at *
      have en : ((vs.length : Int)).toNat = vs.length := by omega
      wp_walk using Mbr.kd, Item.d, e1, en
      refine for_t (G := fun z => CSat (endF _ (qX _ (onFr _ z))) _) (fun j fr => ∃ y6 y7 : Slot, fr = [.val (.tup [.str (Str.ofString "list"), .str nm, c.d, lay its']), .val (.tup vs), .val (.str p), .un, .un, .own (lenF p vs :: idxF (rowT (rG d its')) p vs j), y6, y7]) ⟨_, _, rfl⟩ ?_ ?_
      · rintro j x fr hj ⟨y8, y9, rfl⟩
        obtain ⟨hj2, rfl⟩ := upto_at hj
        rw [Int.zero_add]
        obtain ⟨⟨f2, f3, f4⟩, f5, f6, f7, f8, f9⟩ := n1 p (j := j) (by omega) (by omega)
        obtain ⟨r, er, hr⟩ := hvs vs[j] (List.getElem_mem hj2)
        have hv : vs[j]? = some (.tup r) := by rw [← er]; exact List.getElem?_eq_getElem hj2
        have hat : atI vs (j : Int) = some (.tup r) := by have := atI_nat hj2; rwa [Int.zero_add, er] at this
        have g1 := idx_take (rowT (rG d its')) p vs (Nat.succ_le_of_lt hj2)
        rw [idx_snoc _ _ hv] at g1 ⊢
        rw [List.length_append] at g1
        have ef1 := inner its' r (ixP p j) hi.2.2 hr (by omega) (ixP_ok (by omega) hp) (by omega)
        have g2 : (idxF (rowT (rG d its')) p vs j).length + (rG d its' r (ixP p j)).length ≤ (idxF (rowT (rG d its')) p vs vs.length).length := g1
        wp_walk using f9, f2, hat, ef1
        exact ⟨_, _, rfl⟩
      · rintro fr ⟨y8, y9, rfl⟩
        rw [upto_len]
        wp_walk
        refine ⟨?_, ?_⟩ <;> first | rfl | trivial
theorem Lf.step (H : Lf P I) (Kk : Kd P I) (R : Rich P I) {d : Nat} (IH : ∀ e, d = e + 1 → LfC P I wn e) : LfC P I wn d := by
  intro kk its row p hk hL hR hw hp hpl
  suffices h : CSat (callF P wn kk I.law_facts [.val (lay its), .val (.tup row), .val (.str p)]) fun s ps => s = .own (rF d its row p) ∧ ps = [.un, .un, .un] by
    obtain ⟨s, ps, e, rfl, rfl⟩ := h.get; exact e
  obtain ⟨k, rfl⟩ : ∃ k, kk = k + 1 := ⟨kk - 1, by omega⟩
  rw [callF_succ P wn k H.law_facts _ rfl]
  unfold F_law_facts
  simp only [List.length_cons, List.length_nil, List.reduceReplicate, Nat.reduceSub, Nat.reduceAdd, List.cons_append, List.nil_append]
  have e := Kk.kinds_ok R (wn := wn) (kk := k) (by omega) hL
  have bound := ((row_len d) its row p hL hR).1
  have hlr := hR.all.len
  have hlm := (mbr_of hL).2.1
  rw [rF_eq] at bound ⊢
  have hlk : ((mbrs its).map Mbr.kd).length = (mbrs its).length := List.length_map ..
  have en : (((mbrs its).length : Int)).toNat = (mbrs its).length := by omega
  wp_walk using e, hlk, en
  refine for_t (G := fun z => CSat (endF _ (qX _ (onFr _ z))) _) (fun j fr => ∃ y5 y6 : Slot, fr = [.val (lay its), .val (.tup row), .val (.str p), .own ((((mbrs its).zip row).take j).flatMap fun q => vF (rG d) q.1 q.2 (inP p q.1.nmS)), .own ((mbrs its).map Mbr.kd), y5, y6]) ⟨_, _, rfl⟩ ?_ ?_
  · rintro j x fr hj ⟨y5, y6, rfl⟩
    obtain ⟨hj2, rfl⟩ := upto_at hj
    rw [Int.zero_add]
    have hjr : j < row.length := by omega
    have hq : ((mbrs its).zip row)[j]? = some ((mbrs its)[j], row[j]) := by
      rw [List.getElem?_eq_getElem (by rw [List.length_zip]; omega), List.getElem_zip]
    have hqm := List.mem_of_getElem? hq
    have hm : (mbrs its)[j] ∈ mbrs its := List.getElem_mem hj2
    have hv := all2_zip hR.all hqm
    have a1 : atI ((mbrs its).map Mbr.kd) (j : Int) = some ((mbrs its)[j]).kd := by
      have := atI_nat hj2
      rw [Int.zero_add] at this
      rw [at_map, this]; rfl
    have a2 : atI row (j : Int) = some row[j] := by have := atI_nat hjr; rwa [Int.zero_add] at this
    have g1 := flat_take (fun q : Mbr × D => vF (rG d) q.1 q.2 (inP p q.1.nmS)) ((mbrs its).zip row) (j + 1)
    rw [take_snoc hq, List.flatMap_append, List.flatMap_cons, List.flatMap_nil, List.append_nil] at g1 ⊢
    rw [List.length_append] at g1
    dsimp only at g1 hv ⊢
    generalize (mbrs its)[j] = m at *
    generalize row[j] = v at *
    obtain ⟨n1, _, n4⟩ := mbr_ok hL hm
    obtain ⟨k1, _⟩ := kd_ix hL hm
    rw [n4] at k1
    have n3 := n1.2.1
    have n0 := n1.2.2
    have l1 := inP_len p m.nmS
    have e2 := H.fin IH (kk := k) (by omega) hL hw hm hv (p := inP p m.nmS) (inP_ok hp n1.1) (by omega)
    have hne : ¬ m.nmS = Str.ofString "" := fun z => by rw [z] at n0; exact absurd n0 (by decide +kernel)
    by_cases c : p = Str.ofString ""
    · have ei : inP p m.nmS = m.nmS := by
        unfold inP
        rw [if_pos (.inl c), c]
        exact nil_app _
      rw [ei] at e2 g1 ⊢
      have c' : decide (p = Str.ofString "") = true := decide_eq_true c
      wp_walk using c', a1, k1, a2, e2
      exact ⟨_, _, rfl⟩
    · have ei : inP p m.nmS = (p ++ Str.ofString ".") ++ m.nmS := by
        unfold inP
        rw [if_neg (fun h => h.elim c hne)]
      rw [ei] at e2 g1 ⊢
      have c' : decide (p = Str.ofString "") = false := decide_eq_false c
      have l2 : (p ++ Str.ofString ".").length = p.length + 1 := by rw [str_app_len, show (S' ".").length = 1 by decide +kernel]
      have l3 : (Str.ofString ".").length = 1 := by decide +kernel
      wp_walk using c', a1, k1, a2, e2
      exact ⟨_, _, rfl⟩
  · rintro fr ⟨y5, y6, rfl⟩
    have : (mbrs its).length = ((mbrs its).zip row).length := by rw [List.length_zip]; omega
    rw [upto_len, this, List.take_length]
    wp_walk
    refine ⟨?_, ?_⟩ <;> first | rfl | trivial
/-- THE LAW'S FACTS -/
theorem Lf.facts (H : Lf P I) (Kk : Kd P I) (R : Rich P I) : ∀ d : Nat, LfC P I wn d
  | 0 => H.step Kk R fun e z => by cases z
  | d + 1 => H.step Kk R fun e z => by cases z; exact H.facts Kk R d
/-- the comparison, whose first row is lent -/
theorem Smo.same (H : Smo P I) : ∀ (n : Nat) (kk : Nat) (d : D) (s : Slot), n < kk → Pl n d → (s = .val d ∨ ∃ xs, d = .lst xs ∧ s = .own xs) → callF P wn kk I.law_same [s, .val d] = .ok (.val (.bl true)) [s, .un] := by
  intro n
  induction n with
  | zero =>
    intro kk d s hk hp hs
    obtain ⟨k, rfl⟩ : ∃ k, kk = k + 1 := ⟨kk - 1, by omega⟩
    rw [callF_succ P wn k H.law_same _ rfl]
    unfold F_law_same_o
    simp only [List.length_cons, List.length_nil, List.reduceReplicate, Nat.reduceSub, Nat.reduceAdd, List.cons_append, List.nil_append]
    have hs : s = .val d := by
      rcases hs with h | ⟨xs, rfl, h⟩
      · exact h
      · exact hp.elim
    subst hs
    cases d with
    | non => wp_walk
    | bl b => wp_walk using beq_self_eq_true
    | int i => wp_walk
    | str x => wp_walk
    | tup xs => exact hp.elim
    | lst xs => exact hp.elim
    | dic _ _ => exact hp.elim
    | scr _ => exact hp.elim
  | succ n ih =>
    intro kk d s hk hp hs
    suffices h : CSat (callF P wn kk I.law_same [s, .val d]) fun o ps => o = .val (.bl true) ∧ ps = [s, .un] by
      obtain ⟨o, ps, e, rfl, rfl⟩ := h.get; exact e
    obtain ⟨k, rfl⟩ : ∃ k, kk = k + 1 := ⟨kk - 1, by omega⟩
    rw [callF_succ P wn k H.law_same _ rfl]
    unfold F_law_same_o
    simp only [List.length_cons, List.length_nil, List.reduceReplicate, Nat.reduceSub, Nat.reduceAdd, List.cons_append, List.nil_append]
    have many : ∀ (K : Fr → SOut) (xs : List D) (d : D) (s : Slot), (s = .val d ∨ (d = .lst xs ∧ s = .own xs)) → (∀ j (h : j < xs.length), index d (.int (0 + (j : Int))) = some (.val xs[j])) → (∀ x ∈ xs, Pl n x) → xs.length ≤ 100000 → CSat (endF [true, false] (qX K (qX (evB P (callF P wn k) wn [.ret (.bl true)]) (onFr (unlk []) (forL (asgT (.v 2)) (evB P (callF P wn k) wn [
      .ite (.not (.call I.law_same [.ix (.var 0) (.var 2), .ix (.var 1) (.var 2)])) [
        .ret (.bl false)] []]) (upto 0 xs.length) [s, .val d, .un]))))) fun o ps => o = .val (.bl true) ∧ ps = [s, .un] := by
      intro K xs d s hs hx hp hl
      refine for_t (G := fun z => CSat (endF _ (qX _ (qX _ (onFr _ z)))) _) (fun j fr => ∃ y : Slot, fr = [s, .val d, y]) ⟨_, rfl⟩ ?_ ?_
      · rintro j z fr hj ⟨y, rfl⟩
        obtain ⟨hj2, rfl⟩ := upto_at hj
        have e := hx j hj2
        have e2 := ih k xs[j] (.val xs[j]) (by omega) (hp _ (List.getElem_mem hj2)) (.inl rfl)
        rcases hs with rfl | ⟨rfl, rfl⟩
        · wp_walk using e, e2
          exact ⟨_, rfl⟩
        · rw [ix_l] at e
          wp_walk using e, e2
          have e0 : atI xs (0 + (j : Int)) = some xs[j] := atI_nat hj2
          wp_walk using e0, e2
          exact ⟨_, rfl⟩
      · rintro fr ⟨y, rfl⟩
        wp_walk
        trivial
    cases d with
    | non => have hs : s = .val .non := (by rcases hs with h | ⟨xs, h, _⟩; exact h; cases h)
             subst hs
             wp_walk; trivial
    | bl b => have hs : s = .val (.bl b) := (by rcases hs with h | ⟨xs, h, _⟩; exact h; cases h)
              subst hs
              wp_walk using beq_self_eq_true; trivial
    | int i => have hs : s = .val (.int i) := (by rcases hs with h | ⟨xs, h, _⟩; exact h; cases h)
               subst hs
               wp_walk; trivial
    | str x => have hs : s = .val (.str x) := (by rcases hs with h | ⟨xs, h, _⟩; exact h; cases h)
               subst hs
               wp_walk; trivial
    | tup xs =>
      have hs : s = .val (.tup xs) := (by rcases hs with h | ⟨xs, h, _⟩; exact h; cases h)
      subst hs
      have e : ((xs.length : Int)).toNat = xs.length := by omega
      have hl := hp.1
      wp_walk using e
      refine many _ xs _ _ (.inl rfl) (fun j h => ?_) hp.2 hp.1
      rw [ix_t', atI_nat h]; rfl
    | lst xs =>
      have e : ((xs.length : Int)).toNat = xs.length := by omega
      have hl := hp.1
      have hx : ∀ j (h : j < xs.length), index (.lst xs) (.int (0 + (j : Int))) = some (.val xs[j]) := fun j h => by rw [ix_l, atI_nat h]; rfl
      rcases hs with rfl | ⟨ys, h, rfl⟩
      · wp_walk using e
        exact many _ xs _ _ (.inl rfl) hx hp.2 hp.1
      · cases h
        wp_walk using e
        exact many _ xs _ _ (.inr ⟨rfl, rfl⟩) hx hp.2 hp.1
    | dic _ _ => exact hp.elim
    | scr _ => exact hp.elim
end
end MP

namespace Lk15
open PySem PySem.Spec PyProof.Rows L2 MP
def top (i : Nat) : Stmt := PySem.Challenge.pw_bytebridge_k15_facts_of_a_record.main.body.getD i (.Pass ⟨0, 0, 0, 0⟩)
def f0 : Fn := ⟨1, [false], [
  .ret (.kix 0 (.var 0))]⟩
def f1 : Fn := ⟨4, [false], [
  .asg 1 (.lst []),
  .asg 2 (.bin .mul (.int 8) (.call 0 [.ix (.var 0) (.int 1)])),
  .for_ (.v 3) (.ix (.var 0) (.int 2)) [
    .asg 2 (.bin .sub (.var 2) (.ix (.var 3) (.int 1))),
    .ite (.cmp .isnot (.ix (.var 3) (.int 0)) .non) [
      .ex (.app 1 (.tup [.var 2, .var 3]))] []],
  .ret (.var 1)]⟩
def f2 : Fn := ⟨5, [false], [
  .asg 1 (.lst []),
  .for_ (.v 2) (.var 0) [
    .ite (.cmp .eq (.ix (.var 2) (.int 0)) (.str "word")) [
      .ex (.ext 1 (.lc (.tup [.ix (.var 4) (.int 0), .var 2, .var 4]) (.tup [.v 3, .v 4]) (.call 1 [.var 2]) [] [3, 4]))] [
      .ite (.cmp .in_ (.ix (.var 2) (.int 0)) (.glo 0)) [
        .ex (.app 1 (.tup [.ix (.var 2) (.int 1), .var 2, .non]))] []]],
  .ret (.var 1)]⟩
def f3 : Fn := ⟨2, [false], [
  .ite (.cmp .eq (.ix (.var 0) (.int 0)) (.str "array")) [
    .asg 1 (.tup [.str "", .bin .mul (.int 8) (.call 0 [.ix (.var 0) (.int 2)]), .ix (.var 0) (.int 3), .ix (.var 0) (.int 5), .ix (.var 0) (.int 6)]),
    .ret (.tup [.tup [.str "word", .ix (.var 0) (.int 2), .tup [.var 1]]])] [],
  .ret (.ix (.var 0) (.int 3))]⟩
def f4 : Fn := ⟨2, [false, false], [
  .ite (.cmp .eq (.ix (.var 0) (.int 0)) (.str "array")) [
    .ret (.tup [.var 1])] [],
  .ret (.var 1)]⟩
def f5 : Fn := ⟨3, [false, false], [
  .for_ (.v 2) (.ix (.var 0) (.int 3)) [
    .ite (.cmp .eq (.ix (.var 2) (.int 1)) (.var 1)) [
      .ret (.var 2)] []],
  .ret .non]⟩
def f6 : Fn := ⟨2, [false, false], [
  .ite (.or (.cmp .eq (.var 0) (.str "")) (.cmp .eq (.var 1) (.str ""))) [
    .ret (.bin .add (.var 0) (.var 1))] [],
  .ret (.bin .add (.bin .add (.var 0) (.str ".")) (.var 1))]⟩
def f7 : Fn := ⟨10, [false, false, false], [
  .asgT [.v 3, .v 4, .v 5] (.var 0),
  .ite (.cmp .isnot (.var 5) .non) [
    .ret (.lst [.tup [.var 2, .var 1]])] [],
  .ite (.cmp .eq (.ix (.var 4) (.int 0)) (.str "record")) [
    .ret (.call 8 [.ix (.var 4) (.int 2), .var 1, .var 2])] [],
  .ite (.cmp .eq (.ix (.var 4) (.int 0)) (.str "choice")) [
    .asg 6 (.call 5 [.var 4, .ix (.var 1) (.int 0)]),
    .ret (.bin .add (.lst [.tup [.bin .add (.var 2) (.str ".case"), .ix (.var 1) (.int 0)]]) (.call 8 [.ix (.var 6) (.int 2), .ix (.var 1) (.int 1), .bin .add (.var 2) (.str ".value")]))] [],
  .asg 7 (.lst [.tup [.bin .add (.var 2) (.str ".length"), .bi .len [.var 1]]]),
  .for_ (.tup [.v 8, .v 9]) (.enu (.var 1)) [
    .ex (.ext 7 (.call 8 [.call 3 [.var 4], .call 4 [.var 4, .var 9], .fs [.var 2, .str "[", .var 8, .str "]"]]))],
  .ret (.var 7)]⟩
def f8 : Fn := ⟨6, [false, false, false], [
  .asg 3 (.lst []),
  .for_ (.tup [.v 4, .v 5]) (.zip [.call 2 [.var 0], .var 1]) [
    .ex (.ext 3 (.call 7 [.var 4, .var 5, .call 6 [.var 2, .ix (.var 4) (.int 0)]]))],
  .ret (.var 3)]⟩
def f9 : Fn := ⟨2, [false, false], [
  .ret (.call 8 [.var 0, .var 1, .str ""])]⟩
def f10 : Fn := ⟨3, [false], [
  .asg 1 (.int 7),
  .for_ (.v 2) (.var 0) [
    .asg 1 (.bin .mod (.bi .int [.bin .add (.bin .mul (.var 1) (.int 31)) (.bi .abs [.bi .int [.var 2]])]) (.int 2147483647))],
  .ret (.lst [.bi .list [.var 0], .int 0, .int 0, .var 1])]⟩
def f11 : Fn := ⟨4, [true, false], [
  .ite (.cmp .eq (.ix (.var 0) (.int 2)) (.int 0)) [
    .asg 2 (.ix (.var 0) (.int 1)),
    .asg 3 (.int 0),
    .ite (.cmp .lt (.var 2) (.bi .len [.ix (.var 0) (.int 0)])) [
      .asg 3 (.bi .abs [.bi .int [.ix (.ix (.var 0) (.int 0)) (.var 2)]])] [
      .setix 0 (.int 3) (.bin .mod (.bi .int [.bin .add (.bin .add (.bin .mul (.ix (.var 0) (.int 3)) (.int 48271)) (.var 2)) (.int 1)]) (.int 2147483647)),
      .asg 3 (.ix (.var 0) (.int 3))],
    .setix 0 (.int 1) (.bin .add (.var 2) (.int 1)),
    .ite (.cmp .lt (.var 3) (.bin .pow (.int 10) (.int 18))) [
      .asg 3 (.bin .mod (.bi .int [.bin .add (.bin .add (.bin .mul (.var 3) (.int 48271)) (.bin .mul (.var 2) (.int 69621))) (.int 5)]) (.int 2147483647)),
      .asg 3 (.bin .mod (.bi .int [.bin .mul (.var 3) (.int 69621)]) (.int 2147483629)),
      .ret (.bin .mod (.bi .int [.var 3]) (.bi .max [.var 1, .int 1]))] [],
    .setix 0 (.int 2) (.var 3)] [],
  .asg 3 (.ix (.var 0) (.int 2)),
  .setix 0 (.int 2) (.bin .fdiv (.var 3) (.bi .max [.var 1, .int 2])),
  .ret (.bin .mod (.bi .int [.var 3]) (.bi .max [.var 1, .int 1]))]⟩
def f12 : Fn := ⟨7, [true, true], [
  .asg 2 (.str "abcdefghijklmnopqrstuvwxyzABCDEFGHIJKLMNOPQRSTUVWXYZ0123456789_"),
  .asg 3 (.str "signed case u8 in list default bits choice record literal reserved check marked sum xor i8 length value"),
  .asg 4 (.ix (.lst [.str "", .str "", .str "", .str "reading_of_stat", .str "word", .str "word"]) (.call 11 [.var 0, .int 6])),
  .ite (.cmp .eq (.var 4) (.str "word")) [
    .asg 4 (.ix (.mt .split (.var 3) [.str " "]) (.call 11 [.var 0, .int 18]))] [],
  .ite (.cmp .eq (.var 4) (.str "")) [
    .asg 4 (.ix (.var 2) (.call 11 [.var 0, .int 52]))] [],
  .for_ (.v 5) (.rng [.ix (.lst [.int 0, .int 0, .int 1, .int 2]) (.call 11 [.var 0, .int 4])]) [
    .asg 4 (.bin .add (.var 4) (.ix (.var 2) (.call 11 [.var 0, .int 63])))],
  .asg 6 (.var 4),
  .for_ (.v 5) (.rng [.bi .len [.var 1]]) [
    .ite (.cmp .in_ (.var 6) (.var 1)) [
      .asg 6 (.bin .add (.var 4) (.bi .str [.var 5]))] []],
  .ret (.var 6)]⟩
def f13 : Fn := ⟨3, [false], [
  .asg 1 (.lst []),
  .for_ (.v 2) (.var 0) [
    .ite (.and (.var 1) (.cmp .eq (.ix (.ix (.var 1) (.neg (.int 1))) (.int 1)) (.bin .sub (.var 2) (.int 1)))) [
      .setix 1 (.neg (.int 1)) (.tup [.ix (.ix (.var 1) (.neg (.int 1))) (.int 0), .var 2])] [
      .ex (.app 1 (.tup [.var 2, .var 2]))]],
  .ret (.bi .tuple [.var 1])]⟩
def f14 : Fn := ⟨3, [true, false], [
  .ite (.or (.isi .tuple (.var 1)) (.isi .list (.var 1))) [
    .ite (.and (.isi .tuple (.var 1)) (.not (.isi .tuple (.var 0)))) [
      .ret (.bl false)] [],
    .ite (.and (.isi .list (.var 1)) (.not (.isi .list (.var 0)))) [
      .ret (.bl false)] [],
    .ite (.cmp .ne (.bi .len [.var 0]) (.bi .len [.var 1])) [
      .ret (.bl false)] [],
    .for_ (.v 2) (.rng [.bi .len [.var 1]]) [
      .ite (.not (.call 14 [.ix (.var 0) (.var 2), .ix (.var 1) (.var 2)])) [
        .ret (.bl false)] []],
    .ret (.bl true)] [],
  .ite (.cmp .is (.var 1) .non) [
    .ret (.cmp .is (.var 0) .non)] [],
  .ite (.isi .bool (.var 1)) [
    .ret (.and (.isi .bool (.var 0)) (.cmp .eq (.var 0) (.var 1)))] [],
  .ite (.isi .str (.var 1)) [
    .ret (.and (.isi .str (.var 0)) (.cmp .eq (.var 0) (.var 1)))] [],
  .ret (.and (.isi .int (.var 0)) (.and (.not (.isi .bool (.var 0))) (.cmp .eq (.var 0) (.var 1))))]⟩
def f15 : Fn := ⟨1, [false], [
  .ret (.ix (.dic [Sum.inr (Str.ofString "u8"), Sum.inr (Str.ofString "u16be"), Sum.inr (Str.ofString "u16le"), Sum.inr (Str.ofString "u32be"), Sum.inr (Str.ofString "u32le")] [.int 1, .int 2, .int 2, .int 4, .int 4]) (.var 0))]⟩
def f16 : Fn := ⟨1, [true], [
  .ret (.ix (.lst [.str "u8", .str "u8", .str "u16be", .str "u16le", .str "u32be", .str "u32le"]) (.call 11 [.var 0, .int 6]))]⟩
def f17 : Fn := ⟨4, [true, false, false], [
  .asg 3 (.call 11 [.var 0, .int 3]),
  .ite (.and (.cmp .eq (.var 1) (.var 2)) (.cmp .gt (.var 3) (.int 0))) [
    .ret (.tup [.str "exactly", .var 2])] [],
  .ite (.and (.cmp .eq (.var 1) (.int 0)) (.cmp .gt (.var 3) (.int 0))) [
    .ret (.tup [.str "marked", .var 2])] [],
  .ret (.tup [.str "counted", .call 16 [.var 0], .var 1, .var 2])]⟩
def f18 : Fn := ⟨1, [false], [
  .ite (.cmp .eq (.ix (.var 0) (.int 0)) (.str "counted")) [
    .ret (.tup [.ix (.var 0) (.int 2), .ix (.var 0) (.int 3)])] [],
  .ret (.tup [.ite (.cmp .eq (.ix (.var 0) (.int 0)) (.str "exactly")) (.ix (.var 0) (.int 1)) (.int 0), .ix (.var 0) (.int 1)])]⟩
def f19 : Fn := ⟨5, [true, false, false], [
  .asg 3 (.ix (.var 1) (.call 11 [.var 0, .bi .len [.var 1]])),
  .asg 4 (.cmp .eq (.call 11 [.var 0, .int 3]) (.int 0)),
  .ret (.tup [.var 3, .var 4, .call 20 [.var 0, .var 3, .var 4, .var 2]])]⟩
def f20 : Fn := ⟨10, [true, false, false, false], [
  .asg 4 (.bin .shl (.int 1) (.var 1)),
  .ite (.or (.cmp .gt (.var 1) (.int 8)) (.and (.or (.cmp .eq (.var 3) (.int 0)) (.cmp .le (.var 4) (.var 3))) (.cmp .eq (.call 11 [.var 0, .int 2]) (.int 0)))) [
    .ret .non] [],
  .asg 5 (.call 11 [.var 0, .var 4]),
  .asg 6 (.lst [.var 5]),
  .ite (.and (.cmp .eq (.var 3) (.int 0)) (.cmp .eq (.call 11 [.var 0, .int 2]) (.int 0))) [
    .asg 6 (.lrng [.var 5, .bin .add (.bin .add (.var 5) (.int 1)) (.call 11 [.var 0, .bin .sub (.var 4) (.var 5)])])] [],
  .for_ (.v 7) (.rng [.call 11 [.var 0, .ite (.cmp .eq (.var 3) (.int 0)) (.int 4) (.bi .min [.var 3, .int 4])]]) [
    .asg 5 (.bin .mod (.bi .int [.bin .add (.var 5) (.ix (.lst [.int 1, .int 1, .int 2, .int 7, .bin .fdiv (.var 4) (.int 2), .bin .add (.int 1) (.bin .fdiv (.var 4) (.int 4))]) (.call 11 [.var 0, .int 6]))]) (.var 4)),
    .ite (.cmp .notin (.var 5) (.var 6)) [
      .ex (.app 6 (.var 5))] []],
  .asg 8 (.ite (.var 2) (.bin .fdiv (.var 4) (.int 2)) (.int 0)),
  .ret (.call 13 [.lc (.bin .sub (.var 9) (.var 8)) (.v 9) (.bi .sorted [.var 6]) [] [9]])]⟩
def f21 : Fn := ⟨6, [true, false, false, false], [
  .ite (.cmp .isnot (.var 3) .non) [
    .asg 4 (.ix (.var 3) (.call 11 [.var 0, .bi .len [.var 3]])),
    .ret (.bin .add (.ix (.var 4) (.int 0)) (.call 11 [.var 0, .bin .add (.bin .sub (.ix (.var 4) (.int 1)) (.ix (.var 4) (.int 0))) (.int 1)]))] [],
  .asg 5 (.call 11 [.var 0, .bin .shl (.int 1) (.bi .min [.var 1, .int 16])]),
  .ite (.cmp .gt (.var 1) (.int 16)) [
    .asg 5 (.bin .add (.bin .mul (.var 5) (.int 65536)) (.call 11 [.var 0, .int 65536]))] [],
  .asg 5 (.bin .and (.ix (.lst [.int 0, .bin .sub (.bin .shl (.int 1) (.var 1)) (.int 1), .bin .shl (.int 1) (.bin .sub (.var 1) (.int 1)), .bin .and (.var 5) (.int 255), .var 5, .var 5]) (.call 11 [.var 0, .int 6])) (.bin .sub (.bin .shl (.int 1) (.var 1)) (.int 1))),
  .ret (.ite (.and (.var 2) (.cmp .eq (.bin .shr (.var 5) (.bin .sub (.var 1) (.int 1))) (.int 1))) (.bin .sub (.var 5) (.bin .shl (.int 1) (.var 1))) (.var 5))]⟩
def f22 : Fn := ⟨4, [true, true, false], [
  .ite (.cmp .eq (.call 11 [.var 0, .int 5]) (.int 0)) [
    .ret (.tup [.non, .ix (.var 2) (.int 0), .bl false, .non, .non])] [],
  .ex (.app 1 (.call 12 [.var 0, .var 1])),
  .asg 3 (.ix (.lst [.non, .call 21 [.var 0, .ix (.var 2) (.int 0), .ix (.var 2) (.int 1), .ix (.var 2) (.int 2)]]) (.call 11 [.var 0, .int 2])),
  .ret (.tup [.ix (.var 1) (.neg (.int 1)), .ix (.var 2) (.int 0), .ix (.var 2) (.int 1), .ix (.var 2) (.int 2), .var 3])]⟩
def f23 : Fn := ⟨8, [true, false, false], [
  .asg 3 (.call 15 [.var 1]),
  .asg 4 (.ix (.dic [Sum.inl 1, Sum.inl 2, Sum.inl 4] [.lst [.int 1, .int 255, .int 37, .int 2], .lst [.int 1, .int 256, .int 257, .int 65535], .lst [.int 1, .int 256, .int 65536, .int 16777216]]) (.var 3)),
  .asg 5 (.ix (.var 4) (.call 11 [.var 0, .int 4])),
  .asg 6 (.bin .shl (.call 11 [.var 0, .int 256]) (.bin .mul (.int 8) (.call 11 [.var 0, .var 3]))),
  .ret (.lc (.bin .mod (.bi .int [.bin .add (.var 6) (.bin .mul (.var 7) (.var 5))]) (.bin .shl (.int 1) (.bin .mul (.int 8) (.var 3)))) (.v 7) (.rng [.var 2]) [] [7])]⟩
def f24 : Fn := ⟨3, [true, false], [
  .ite (.lc (.var 2) (.v 2) (.var 1) [.cmp .in_ (.ix (.var 2) (.int 0)) (.tup [.str "word", .str "choice", .str "literal", .str "reserved", .str "check"])] [2]) [
    .ret (.var 1)] [],
  .ret (.bin .add (.var 1) (.tup [.tup [.str "literal", .tup [.call 11 [.var 0, .int 256]]]]))]⟩
def f25 : Fn := ⟨8, [true, false, false], [
  .asg 3 (.tup []),
  .asg 4 (.int 0),
  .asg 5 (.lst []),
  .for_ (.v 6) (.rng [.ite (.cmp .gt (.var 2) (.int 0)) (.ix (.lst [.int 2, .int 1, .int 2, .int 3, .int 4, .int 0, .ite (.cmp .gt (.var 1) (.int 2)) (.int 9) (.int 3)]) (.call 11 [.var 0, .int 7])) (.int 0)]) [
    .asg 7 (.call 26 [.var 0, .var 5, .var 1, .bin .sub (.var 2) (.var 4)]),
    .ite (.cmp .le (.bin .add (.var 4) (.ix (.var 7) (.int 1))) (.var 2)) [
      .asg 3 (.bin .add (.var 3) (.tup [.ix (.var 7) (.int 0)])),
      .asg 4 (.bin .add (.var 4) (.ix (.var 7) (.int 1)))] []],
  .ret (.tup [.var 3, .var 4])]⟩
def f26 : Fn := ⟨11, [true, true, false, false], [
  .asg 4 (.call 11 [.var 0, .int 10]),
  .ite (.cmp .lt (.var 4) (.int 2)) [
    .ret (.call 27 [.var 0])] [],
  .ite (.or (.cmp .lt (.var 4) (.int 5)) (.and (.cmp .gt (.var 4) (.int 5)) (.cmp .eq (.var 2) (.int 0)))) [
    .ret (.tup [.call 28 [.var 0, .var 1], .int 8])] [],
  .ex (.app 1 (.call 12 [.var 0, .var 1])),
  .ite (.cmp .eq (.var 4) (.int 9)) [
    .asg 5 (.call 25 [.var 0, .bin .sub (.var 2) (.int 1), .bin .sub (.var 3) (.int 1)]),
    .ret (.tup [.tup [.str "record", .ix (.var 1) (.neg (.int 1)), .ix (.var 5) (.int 0)], .bin .add (.ix (.var 5) (.int 1)) (.int 1)])] [],
  .ite (.and (.cmp .eq (.var 4) (.int 8)) (.cmp .gt (.var 3) (.int 5))) [
    .ret (.call 29 [.var 0, .ix (.var 1) (.neg (.int 1)), .var 2, .var 3])] [],
  .asg 6 (.ix (.lst [.int 1, .int 2, .int 3, .bin .add (.int 1) (.call 11 [.var 0, .int 60])]) (.call 11 [.var 0, .int 4])),
  .asg 7 (.call 17 [.var 0, .ix (.lst [.int 0, .var 6, .call 11 [.var 0, .bin .add (.var 6) (.int 1)]]) (.call 11 [.var 0, .int 3]), .var 6]),
  .ite (.cmp .eq (.var 4) (.int 5)) [
    .asg 8 (.call 19 [.var 0, .lst [.int 8, .int 8, .int 16, .int 32], .int 0]),
    .asg 9 (.ix (.ix (.dic [Sum.inl 8, Sum.inl 16, Sum.inl 32] [.lst [.str "u8", .str "u8"], .lst [.str "u16be", .str "u16le"], .lst [.str "u32be", .str "u32le"]]) (.ix (.var 8) (.int 0))) (.call 11 [.var 0, .int 2])),
    .asg 10 (.ix (.lst [.non, .call 21 [.var 0, .ix (.var 8) (.int 0), .ix (.var 8) (.int 1), .ix (.var 8) (.int 2)]]) (.call 11 [.var 0, .int 2])),
    .ret (.tup [.tup [.str "array", .ix (.var 1) (.neg (.int 1)), .var 9, .ix (.var 8) (.int 1), .var 7, .ix (.var 8) (.int 2), .var 10], .bin .add (.int 5) (.bin .mul (.int 5) (.var 6))])] [],
  .asg 5 (.call 25 [.var 0, .bin .sub (.var 2) (.int 1), .bin .sub (.bin .fdiv (.bin .sub (.var 3) (.int 5)) (.var 6)) (.int 2)]),
  .ret (.tup [.tup [.str "list", .ix (.var 1) (.neg (.int 1)), .var 7, .call 24 [.var 0, .ix (.var 5) (.int 0)]], .bin .add (.int 5) (.bin .mul (.var 6) (.bin .add (.ix (.var 5) (.int 1)) (.int 2)))])]⟩
def f27 : Fn := ⟨4, [true], [
  .asg 1 (.call 11 [.var 0, .int 6]),
  .asg 2 (.ix (.lst [.int 1, .int 2, .int 3, .bin .add (.int 1) (.call 11 [.var 0, .int 60])]) (.call 11 [.var 0, .int 4])),
  .ite (.cmp .lt (.var 1) (.int 2)) [
    .ret (.tup [.tup [.str "check", .ix (.lst [.str "sum", .str "xor"]) (.var 1)], .int 1])] [],
  .ite (.cmp .eq (.var 1) (.int 2)) [
    .ret (.tup [.tup [.str "reserved", .var 2], .var 2])] [],
  .ite (.cmp .eq (.var 1) (.int 3)) [
    .ret (.tup [.tup [.str "word", .str "u8", .tup [.tup [.non, .int 3, .bl false, .non, .non], .tup [.non, .int 5, .bl false, .non, .non]]], .int 3])] [],
  .ret (.tup [.tup [.str "literal", .bi .tuple [.lc (.call 11 [.var 0, .int 256]) (.v 3) (.rng [.var 2]) [] [3]]], .var 2])]⟩
def f28 : Fn := ⟨8, [true, true], [
  .asg 2 (.call 16 [.var 0]),
  .asg 3 (.bin .mul (.int 8) (.call 15 [.var 2])),
  .asg 4 (.tup []),
  .for_ (.v 5) (.rng [.ix (.lst [.int 1, .int 1, .int 2, .int 5]) (.call 11 [.var 0, .int 4])]) [
    .ite (.cmp .gt (.var 3) (.int 0)) [
      .asg 6 (.lc (.var 7) (.v 7) (.lst [.var 3, .int 8, .int 1, .int 2, .int 3, .int 5, .int 12, .var 3]) [.cmp .le (.var 7) (.var 3)] [7]),
      .asg 4 (.bin .add (.var 4) (.tup [.call 22 [.var 0, .var 1, .call 19 [.var 0, .var 6, .int 0]]])),
      .asg 3 (.bin .sub (.var 3) (.ix (.ix (.var 4) (.neg (.int 1))) (.int 1)))] []],
  .ite (.cmp .gt (.var 3) (.int 0)) [
    .asg 4 (.bin .add (.var 4) (.tup [.tup [.non, .var 3, .bl false, .non, .non]]))] [],
  .ret (.tup [.str "word", .var 2, .var 4])]⟩
def f29 : Fn := ⟨12, [true, false, false, false], [
  .asg 4 (.call 16 [.var 0]),
  .asg 5 (.ix (.lst [.int 1, .int 2, .int 3, .ite (.cmp .gt (.var 2) (.int 2)) (.int 9) (.int 6)]) (.call 11 [.var 0, .int 4])),
  .asg 6 (.cmp .eq (.call 11 [.var 0, .int 3]) (.int 0)),
  .asg 7 (.call 25 [.var 0, .bin .sub (.var 2) (.int 1), .bin .sub (.bin .fdiv (.bin .sub (.var 3) (.int 5)) (.var 5)) (.int 1)]),
  .asg 8 (.tup []),
  .asg 9 (.lst []),
  .asg 10 (.int 5),
  .for_ (.v 11) (.call 23 [.var 0, .var 4, .var 5]) [
    .ex (.app 9 (.call 12 [.var 0, .var 9])),
    .asg 8 (.bin .add (.var 8) (.tup [.tup [.var 11, .ix (.var 9) (.neg (.int 1)), .ix (.var 7) (.int 0)]])),
    .asg 10 (.bin .add (.bin .add (.var 10) (.int 1)) (.ix (.var 7) (.int 1))),
    .asg 7 (.ite (.var 6) (.tup [.rev (.ix (.var 7) (.int 0)), .ix (.var 7) (.int 1)]) (.call 25 [.var 0, .bin .sub (.var 2) (.int 1), .bin .sub (.bin .fdiv (.bin .sub (.var 3) (.int 5)) (.var 5)) (.int 1)]))],
  .ret (.tup [.tup [.str "choice", .var 1, .var 4, .var 8], .var 10])]⟩
def f30 : Fn := ⟨10, [true, false], [
  .asg 2 (.tup []),
  .for_ (.v 3) (.var 1) [
    .ite (.cmp .eq (.ix (.var 3) (.int 0)) (.str "word")) [
      .for_ (.v 4) (.ix (.var 3) (.int 2)) [
        .ite (.cmp .isnot (.ix (.var 4) (.int 0)) .non) [
          .asg 2 (.bin .add (.var 2) (.tup [.call 21 [.var 0, .ix (.var 4) (.int 1), .ix (.var 4) (.int 2), .ix (.var 4) (.int 3)]]))] []]] [
      .ite (.cmp .eq (.ix (.var 3) (.int 0)) (.str "record")) [
        .asg 2 (.bin .add (.var 2) (.tup [.call 30 [.var 0, .ix (.var 3) (.int 2)]]))] [
        .ite (.cmp .eq (.ix (.var 3) (.int 0)) (.str "choice")) [
          .asg 5 (.ix (.ix (.var 3) (.int 3)) (.call 11 [.var 0, .bi .len [.ix (.var 3) (.int 3)]])),
          .asg 2 (.bin .add (.var 2) (.tup [.tup [.ix (.var 5) (.int 1), .call 30 [.var 0, .ix (.var 5) (.int 2)]]]))] [
          .ite (.or (.cmp .eq (.ix (.var 3) (.int 0)) (.str "array")) (.cmp .eq (.ix (.var 3) (.int 0)) (.str "list"))) [
            .asg 6 (.call 18 [.ite (.cmp .eq (.ix (.var 3) (.int 0)) (.str "array")) (.ix (.var 3) (.int 4)) (.ix (.var 3) (.int 2))]),
            .asg 7 (.ix (.lst [.ix (.var 6) (.int 0), .ix (.var 6) (.int 1), .bin .add (.ix (.var 6) (.int 0)) (.call 11 [.var 0, .bin .add (.bin .sub (.ix (.var 6) (.int 1)) (.ix (.var 6) (.int 0))) (.int 1)])]) (.call 11 [.var 0, .int 3])),
            .ite (.cmp .eq (.ix (.var 3) (.int 0)) (.str "list")) [
              .asg 8 (.lc (.call 30 [.var 0, .ix (.var 3) (.int 3)]) (.v 9) (.rng [.var 7]) [] [9])] [
              .asg 8 (.lc (.call 21 [.var 0, .bin .mul (.int 8) (.call 15 [.ix (.var 3) (.int 2)]), .ix (.var 3) (.int 3), .ix (.var 3) (.int 5)]) (.v 9) (.rng [.var 7]) [] [9])],
            .asg 2 (.bin .add (.var 2) (.tup [.bi .tuple [.var 8]]))] []]]]],
  .ret (.var 2)]⟩
def f31 : Fn := ⟨4, [false], [
  .asg 1 (.lst []),
  .for_ (.v 2) (.var 0) [
    .ite (.cmp .eq (.ix (.var 2) (.int 0)) (.str "word")) [
      .for_ (.v 3) (.ix (.var 2) (.int 2)) [
        .ite (.cmp .isnot (.ix (.var 3) (.int 0)) .non) [
          .ex (.app 1 (.bin .add (.tup [.str "integer"]) (.var 3)))] []]] [
      .ite (.cmp .eq (.ix (.var 2) (.int 0)) (.str "array")) [
        .ex (.app 1 (.tup [.str "array", .ix (.var 2) (.int 1), .ix (.var 2) (.int 4), .bin .mul (.int 8) (.call 15 [.ix (.var 2) (.int 2)]), .ix (.var 2) (.int 3), .ix (.var 2) (.int 5), .ix (.var 2) (.int 6)]))] [
        .ite (.cmp .eq (.ix (.var 2) (.int 0)) (.str "choice")) [
          .ex (.app 1 (.tup [.str "choice", .ix (.var 2) (.int 1), .ix (.var 2) (.int 3)]))] [
          .ite (.or (.cmp .eq (.ix (.var 2) (.int 0)) (.str "list")) (.cmp .eq (.ix (.var 2) (.int 0)) (.str "record"))) [
            .ex (.app 1 (.var 2))] []]]]],
  .ret (.var 1)]⟩
def f32 : Fn := ⟨7, [false, false, false], [
  .asg 3 (.lst []),
  .asg 4 (.call 31 [.var 0]),
  .for_ (.v 5) (.rng [.bi .len [.var 4]]) [
    .asg 6 (.ite (.cmp .eq (.var 2) (.str "")) (.ix (.ix (.var 4) (.var 5)) (.int 1)) (.bin .add (.bin .add (.var 2) (.str ".")) (.ix (.ix (.var 4) (.var 5)) (.int 1)))),
    .asg 3 (.bin .add (.var 3) (.call 33 [.ix (.var 4) (.var 5), .ix (.var 1) (.var 5), .var 6]))],
  .ret (.var 3)]⟩
def f33 : Fn := ⟨8, [false, false, false], [
  .ite (.cmp .eq (.ix (.var 0) (.int 0)) (.str "integer")) [
    .ret (.lst [.tup [.var 2, .var 1]])] [],
  .ite (.cmp .eq (.ix (.var 0) (.int 0)) (.str "record")) [
    .ret (.call 32 [.ix (.var 0) (.int 2), .var 1, .var 2])] [],
  .ite (.cmp .eq (.ix (.var 0) (.int 0)) (.str "choice")) [
    .asg 3 (.lc (.ix (.var 4) (.int 2)) (.v 4) (.ix (.var 0) (.int 2)) [.cmp .eq (.ix (.var 4) (.int 1)) (.ix (.var 1) (.int 0))] [4]),
    .ret (.bin .add (.lst [.tup [.bin .add (.var 2) (.str ".case"), .ix (.var 1) (.int 0)]]) (.call 32 [.ix (.var 3) (.int 0), .ix (.var 1) (.int 1), .bin .add (.var 2) (.str ".value")]))] [],
  .asg 5 (.lst [.tup [.bin .add (.var 2) (.str ".length"), .bi .len [.var 1]]]),
  .for_ (.v 6) (.rng [.bi .len [.var 1]]) [
    .asg 7 (.bin .add (.bin .add (.bin .add (.var 2) (.str "[")) (.bi .str [.var 6])) (.str "]")),
    .asg 5 (.bin .add (.var 5) (.ite (.cmp .eq (.ix (.var 0) (.int 0)) (.str "array")) (.lst [.tup [.var 7, .ix (.var 1) (.var 6)]]) (.call 32 [.ix (.var 0) (.int 3), .ix (.var 1) (.var 6), .var 7])))],
  .ret (.var 5)]⟩
def f34 : Fn := ⟨6, [false], [
  .asg 1 (.call 10 [.var 0]),
  .asg 2 (.ix (.call 25 [.var 1, .int 3, .int 390]) (.int 0)),
  .asg 3 (.call 30 [.var 1, .var 2]),
  .asg 4 (.call 32 [.var 2, .var 3, .str ""]),
  .asg 5 (.call 9 [.var 2, .var 3]),
  .ite (.not (.call 14 [.var 5, .var 4])) [
    .ret (.bl false)] [],
  .ex (.app 5 (.tup [.str "x", .int 0])),
  .setix 5 (.int 0) (.tup [.str "y", .int 1]),
  .ret (.call 14 [.call 9 [.var 2, .var 3], .var 4])]⟩
def pg : Prg := ⟨[f0, f1, f2, f3, f4, f5, f6, f7, f8, f9, f10, f11, f12, f13, f14, f15, f16, f17, f18, f19, f20, f21, f22, f23, f24, f25, f26, f27, f28, f29, f30, f31, f32, f33, f34], [.tup [.str (Str.ofString "array"), .str (Str.ofString "list"), .str (Str.ofString "choice"), .str (Str.ofString "record")]], [[("u8", .int 1), ("u16be", .int 2), ("u16le", .int 2), ("u32be", .int 4), ("u32le", .int 4)]]⟩
/-! ### the text, checked -/
abbrev s0 : Stmt := top 2
def d0 : He.DefD := ⟨("word_size", none), "word_size", "word_size", defArgs s0, defBody s0, defScope s0, [], []⟩
def r0 : Rec := ⟨"word_size", "word_size", defArgs s0, defBody s0, defScope s0, ["word"], ["word"], f0⟩
abbrev s1 : Stmt := top 5
def d1 : He.DefD := ⟨("fields", none), "fields", "fields", defArgs s1, defBody s1, defScope s1, [], []⟩
def r1 : Rec := ⟨"fields", "fields", defArgs s1, defBody s1, defScope s1, ["item"], ["item", "found", "low", "part"], f1⟩
abbrev s2 : Stmt := top 6
def d2 : He.DefD := ⟨("slots", none), "slots", "slots", defArgs s2, defBody s2, defScope s2, [], []⟩
def r2 : Rec := ⟨"slots", "slots", defArgs s2, defBody s2, defScope s2, ["layout"], ["layout", "found", "item", "_", "part"], f2⟩
abbrev s3 : Stmt := top 7
def d3 : He.DefD := ⟨("element_layout", none), "element_layout", "element_layout", defArgs s3, defBody s3, defScope s3, [], []⟩
def r3 : Rec := ⟨"element_layout", "element_layout", defArgs s3, defBody s3, defScope s3, ["item"], ["item", "part"], f3⟩
abbrev s4 : Stmt := top 8
def d4 : He.DefD := ⟨("wrap", none), "wrap", "wrap", defArgs s4, defBody s4, defScope s4, [], []⟩
def r4 : Rec := ⟨"wrap", "wrap", defArgs s4, defBody s4, defScope s4, ["item", "element"], ["item", "element"], f4⟩
abbrev s5 : Stmt := top 9
def d5 : He.DefD := ⟨("case_named", none), "case_named", "case_named", defArgs s5, defBody s5, defScope s5, [], []⟩
def r5 : Rec := ⟨"case_named", "case_named", defArgs s5, defBody s5, defScope s5, ["item", "name"], ["item", "name", "case"], f5⟩
abbrev s6 : Stmt := top 10
def d6 : He.DefD := ⟨("inside", none), "inside", "inside", defArgs s6, defBody s6, defScope s6, [], []⟩
def r6 : Rec := ⟨"inside", "inside", defArgs s6, defBody s6, defScope s6, ["path", "name"], ["path", "name"], f6⟩
abbrev s7 : Stmt := top 12
def d7 : He.DefD := ⟨("facts_of_value", none), "facts_of_value", "facts_of_value", defArgs s7, defBody s7, defScope s7, [], []⟩
def r7 : Rec := ⟨"facts_of_value", "facts_of_value", defArgs s7, defBody s7, defScope s7, ["slot", "value", "path"], ["slot", "value", "path", "_", "item", "part", "case", "found", "index", "element"], f7⟩
abbrev s8 : Stmt := top 13
def d8 : He.DefD := ⟨("facts_inside", none), "facts_inside", "facts_inside", defArgs s8, defBody s8, defScope s8, [], []⟩
def r8 : Rec := ⟨"facts_inside", "facts_inside", defArgs s8, defBody s8, defScope s8, ["layout", "record", "path"], ["layout", "record", "path", "found", "slot", "value"], f8⟩
abbrev s9 : Stmt := top 14
def d9 : He.DefD := ⟨("facts_of", none), "facts_of", "facts_of", defArgs s9, defBody s9, defScope s9, [], []⟩
def r9 : Rec := ⟨"facts_of", "facts_of", defArgs s9, defBody s9, defScope s9, ["layout", "record"], ["layout", "record"], f9⟩
abbrev s10 : Stmt := top 16
def d10 : He.DefD := ⟨("_law_tape", none), "_law_tape", "_law_tape", defArgs s10, defBody s10, defScope s10, [], []⟩
def r10 : Rec := ⟨"_law_tape", "_law_tape", defArgs s10, defBody s10, defScope s10, ["_law_script"], ["_law_script", "_law_total", "_law_cell"], f10⟩
abbrev s11 : Stmt := top 17
def d11 : He.DefD := ⟨("_law_draw", none), "_law_draw", "_law_draw", defArgs s11, defBody s11, defScope s11, [], []⟩
def r11 : Rec := ⟨"_law_draw", "_law_draw", defArgs s11, defBody s11, defScope s11, ["_law_tape_here", "_law_many"], ["_law_tape_here", "_law_many", "_law_place", "_law_number"], f11⟩
abbrev s12 : Stmt := top 18
def d12 : He.DefD := ⟨("_law_name", none), "_law_name", "_law_name", defArgs s12, defBody s12, defScope s12, [], []⟩
def r12 : Rec := ⟨"_law_name", "_law_name", defArgs s12, defBody s12, defScope s12, ["_law_tape_here", "_law_used"], ["_law_tape_here", "_law_used", "_law_signs", "_law_words", "_law_name_here", "_law_k", "_law_fresh"], f12⟩
abbrev s13 : Stmt := top 19
def d13 : He.DefD := ⟨("_law_runs", none), "_law_runs", "_law_runs", defArgs s13, defBody s13, defScope s13, [], []⟩
def r13 : Rec := ⟨"_law_runs", "_law_runs", defArgs s13, defBody s13, defScope s13, ["_law_numbers"], ["_law_numbers", "_law_rows", "_law_number"], f13⟩
abbrev s14 : Stmt := top 20
def d14 : He.DefD := ⟨("_law_same", none), "_law_same", "_law_same", defArgs s14, defBody s14, defScope s14, [], []⟩
def r14 : Rec := ⟨"_law_same", "_law_same", defArgs s14, defBody s14, defScope s14, ["_law_told", "_law_due"], ["_law_told", "_law_due", "_law_k"], f14⟩
abbrev s15 : Stmt := top 21
def d15 : He.DefD := ⟨("_law_size", none), "_law_size", "_law_size", defArgs s15, defBody s15, defScope s15, [], []⟩
def r15 : Rec := ⟨"_law_size", "_law_size", defArgs s15, defBody s15, defScope s15, ["_law_word"], ["_law_word"], f15⟩
abbrev s16 : Stmt := top 22
def d16 : He.DefD := ⟨("_law_any_word", none), "_law_any_word", "_law_any_word", defArgs s16, defBody s16, defScope s16, [], []⟩
def r16 : Rec := ⟨"_law_any_word", "_law_any_word", defArgs s16, defBody s16, defScope s16, ["_law_tape_here"], ["_law_tape_here"], f16⟩
abbrev s17 : Stmt := top 23
def d17 : He.DefD := ⟨("_law_a_count", none), "_law_a_count", "_law_a_count", defArgs s17, defBody s17, defScope s17, [], []⟩
def r17 : Rec := ⟨"_law_a_count", "_law_a_count", defArgs s17, defBody s17, defScope s17, ["_law_tape_here", "_law_least", "_law_greatest"], ["_law_tape_here", "_law_least", "_law_greatest", "_law_share"], f17⟩
abbrev s18 : Stmt := top 24
def d18 : He.DefD := ⟨("_law_bounds", none), "_law_bounds", "_law_bounds", defArgs s18, defBody s18, defScope s18, [], []⟩
def r18 : Rec := ⟨"_law_bounds", "_law_bounds", defArgs s18, defBody s18, defScope s18, ["_law_count"], ["_law_count"], f18⟩
abbrev s19 : Stmt := top 25
def d19 : He.DefD := ⟨("_law_a_field", none), "_law_a_field", "_law_a_field", defArgs s19, defBody s19, defScope s19, [], []⟩
def r19 : Rec := ⟨"_law_a_field", "_law_a_field", defArgs s19, defBody s19, defScope s19, ["_law_tape_here", "_law_widths", "_law_most"], ["_law_tape_here", "_law_widths", "_law_most", "_law_width", "_law_signed"], f19⟩
abbrev s20 : Stmt := top 26
def d20 : He.DefD := ⟨("_law_ranges", none), "_law_ranges", "_law_ranges", defArgs s20, defBody s20, defScope s20, [], []⟩
def r20 : Rec := ⟨"_law_ranges", "_law_ranges", defArgs s20, defBody s20, defScope s20, ["_law_tape_here", "_law_width", "_law_signed", "_law_most"], ["_law_tape_here", "_law_width", "_law_signed", "_law_most", "_law_span", "_law_at", "_law_numbers", "_law_k", "_law_lowest", "_law_number"], f20⟩
abbrev s21 : Stmt := top 27
def d21 : He.DefD := ⟨("_law_a_number", none), "_law_a_number", "_law_a_number", defArgs s21, defBody s21, defScope s21, [], []⟩
def r21 : Rec := ⟨"_law_a_number", "_law_a_number", defArgs s21, defBody s21, defScope s21, ["_law_tape_here", "_law_width", "_law_signed", "_law_ranges_here"], ["_law_tape_here", "_law_width", "_law_signed", "_law_ranges_here", "_law_pair", "_law_code"], f21⟩
abbrev s22 : Stmt := top 28
def d22 : He.DefD := ⟨("_law_part", none), "_law_part", "_law_part", defArgs s22, defBody s22, defScope s22, [], []⟩
def r22 : Rec := ⟨"_law_part", "_law_part", defArgs s22, defBody s22, defScope s22, ["_law_tape_here", "_law_used", "_law_field"], ["_law_tape_here", "_law_used", "_law_field", "_law_default"], f22⟩
abbrev s23 : Stmt := top 29
def d23 : He.DefD := ⟨("_law_case_numbers", none), "_law_case_numbers", "_law_case_numbers", defArgs s23, defBody s23, defScope s23, [], []⟩
def r23 : Rec := ⟨"_law_case_numbers", "_law_case_numbers", defArgs s23, defBody s23, defScope s23, ["_law_tape_here", "_law_word", "_law_many"], ["_law_tape_here", "_law_word", "_law_many", "_law_size_here", "_law_steps", "_law_step", "_law_base", "_law_k"], f23⟩
abbrev s24 : Stmt := top 30
def d24 : He.DefD := ⟨("_law_not_empty", none), "_law_not_empty", "_law_not_empty", defArgs s24, defBody s24, defScope s24, [], []⟩
def r24 : Rec := ⟨"_law_not_empty", "_law_not_empty", defArgs s24, defBody s24, defScope s24, ["_law_tape_here", "_law_items"], ["_law_tape_here", "_law_items", "_law_item"], f24⟩
abbrev s25 : Stmt := top 31
def d25 : He.DefD := ⟨("_law_rich", none), "_law_rich", "_law_rich", defArgs s25, defBody s25, defScope s25, [], []⟩
def r25 : Rec := ⟨"_law_rich", "_law_rich", defArgs s25, defBody s25, defScope s25, ["_law_tape_here", "_law_depth", "_law_room"], ["_law_tape_here", "_law_depth", "_law_room", "_law_items", "_law_spent", "_law_used", "_law_k", "_law_told"], f25⟩
abbrev s26 : Stmt := top 32
def d26 : He.DefD := ⟨("_law_rich_item", none), "_law_rich_item", "_law_rich_item", defArgs s26, defBody s26, defScope s26, [], []⟩
def r26 : Rec := ⟨"_law_rich_item", "_law_rich_item", defArgs s26, defBody s26, defScope s26, ["_law_tape_here", "_law_used", "_law_depth", "_law_room"], ["_law_tape_here", "_law_used", "_law_depth", "_law_room", "_law_sort", "_law_told", "_law_greatest", "_law_count", "_law_field", "_law_word", "_law_default"], f26⟩
abbrev s27 : Stmt := top 33
def d27 : He.DefD := ⟨("_law_fixed", none), "_law_fixed", "_law_fixed", defArgs s27, defBody s27, defScope s27, [], []⟩
def r27 : Rec := ⟨"_law_fixed", "_law_fixed", defArgs s27, defBody s27, defScope s27, ["_law_tape_here"], ["_law_tape_here", "_law_share", "_law_many", "_law_k"], f27⟩
abbrev s28 : Stmt := top 34
def d28 : He.DefD := ⟨("_law_rich_word", none), "_law_rich_word", "_law_rich_word", defArgs s28, defBody s28, defScope s28, [], []⟩
def r28 : Rec := ⟨"_law_rich_word", "_law_rich_word", defArgs s28, defBody s28, defScope s28, ["_law_tape_here", "_law_used"], ["_law_tape_here", "_law_used", "_law_word", "_law_left", "_law_parts", "_law_k", "_law_widths", "_law_width"], f28⟩
abbrev s29 : Stmt := top 35
def d29 : He.DefD := ⟨("_law_rich_choice", none), "_law_rich_choice", "_law_rich_choice", defArgs s29, defBody s29, defScope s29, [], []⟩
def r29 : Rec := ⟨"_law_rich_choice", "_law_rich_choice", defArgs s29, defBody s29, defScope s29, ["_law_tape_here", "_law_name_here", "_law_depth", "_law_room"], ["_law_tape_here", "_law_name_here", "_law_depth", "_law_room", "_law_word", "_law_many", "_law_alike", "_law_told", "_law_cases", "_law_names", "_law_spent", "_law_number"], f29⟩
abbrev s30 : Stmt := top 36
def d30 : He.DefD := ⟨("_law_a_row", none), "_law_a_row", "_law_a_row", defArgs s30, defBody s30, defScope s30, [], []⟩
def r30 : Rec := ⟨"_law_a_row", "_law_a_row", defArgs s30, defBody s30, defScope s30, ["_law_tape_here", "_law_items"], ["_law_tape_here", "_law_items", "_law_row", "_law_item", "_law_part_here", "_law_case", "_law_ends", "_law_many", "_law_things", "_law_k"], f30⟩
abbrev s31 : Stmt := top 37
def d31 : He.DefD := ⟨("_law_kinds", none), "_law_kinds", "_law_kinds", defArgs s31, defBody s31, defScope s31, [], []⟩
def r31 : Rec := ⟨"_law_kinds", "_law_kinds", defArgs s31, defBody s31, defScope s31, ["_law_items"], ["_law_items", "_law_kinds_here", "_law_item", "_law_part_here"], f31⟩
abbrev s32 : Stmt := top 38
def d32 : He.DefD := ⟨("_law_facts", none), "_law_facts", "_law_facts", defArgs s32, defBody s32, defScope s32, [], []⟩
def r32 : Rec := ⟨"_law_facts", "_law_facts", defArgs s32, defBody s32, defScope s32, ["_law_items", "_law_row", "_law_path"], ["_law_items", "_law_row", "_law_path", "_law_found", "_law_kinds_here", "_law_k", "_law_here"], f32⟩
abbrev s33 : Stmt := top 39
def d33 : He.DefD := ⟨("_law_facts_in", none), "_law_facts_in", "_law_facts_in", defArgs s33, defBody s33, defScope s33, [], []⟩
def r33 : Rec := ⟨"_law_facts_in", "_law_facts_in", defArgs s33, defBody s33, defScope s33, ["_law_kind", "_law_thing", "_law_path"], ["_law_kind", "_law_thing", "_law_path", "_law_inside", "_law_case", "_law_found", "_law_i", "_law_here"], f33⟩
abbrev s34 : Stmt := top 40
def d34 : He.DefD := ⟨("law", none), "law", "law", defArgs s34, defBody s34, defScope s34, [], []⟩
def r34 : Rec := ⟨"law", "law", defArgs s34, defBody s34, defScope s34, ["_law_script"], ["_law_script", "_law_tape_here", "_law_layout", "_law_row", "_law_due", "_law_told"], f34⟩
def recs : List Rec := [r0, r1, r2, r3, r4, r5, r6, r7, r8, r9, r10, r11, r12, r13, r14, r15, r16, r17, r18, r19, r20, r21, r22, r23, r24, r25, r26, r27, r28, r29, r30, r31, r32, r33, r34]
def bls : List Str := ["len", "enumerate", "zip", "int", "abs", "list", "max", "range", "str", "tuple", "isinstance", "bool", "min", "sorted"]
def glo : List Str := ["COMPOSITES"]
def glod : List D := [.tup [.str (Str.ofString "array"), .str (Str.ofString "list"), .str (Str.ofString "choice"), .str (Str.ofString "record")]]
def dct : List Str := ["WORD_SIZES"]
def dctd : List (List (Str × D)) := [[("u8", .int 1), ("u16be", .int 2), ("u16le", .int 2), ("u32be", .int 4), ("u32le", .int 4)]]
def pack : Pack := ⟨recs, bls, glo, glod, dct, dctd⟩
theorem c0 : pack.ck1 r0 = true := by decide +kernel
theorem c1 : pack.ck1 r1 = true := by decide +kernel
theorem c2 : pack.ck1 r2 = true := by decide +kernel
theorem c3 : pack.ck1 r3 = true := by decide +kernel
theorem c4 : pack.ck1 r4 = true := by decide +kernel
theorem c5 : pack.ck1 r5 = true := by decide +kernel
theorem c6 : pack.ck1 r6 = true := by decide +kernel
theorem c7 : pack.ck1 r7 = true := by decide +kernel
theorem c8 : pack.ck1 r8 = true := by decide +kernel
theorem c9 : pack.ck1 r9 = true := by decide +kernel
theorem c10 : pack.ck1 r10 = true := by decide +kernel
theorem c11 : pack.ck1 r11 = true := by decide +kernel
theorem c12 : pack.ck1 r12 = true := by decide +kernel
theorem c13 : pack.ck1 r13 = true := by decide +kernel
theorem c14 : pack.ck1 r14 = true := by decide +kernel
theorem c15 : pack.ck1 r15 = true := by decide +kernel
theorem c16 : pack.ck1 r16 = true := by decide +kernel
theorem c17 : pack.ck1 r17 = true := by decide +kernel
theorem c18 : pack.ck1 r18 = true := by decide +kernel
theorem c19 : pack.ck1 r19 = true := by decide +kernel
theorem c20 : pack.ck1 r20 = true := by decide +kernel
theorem c21 : pack.ck1 r21 = true := by decide +kernel
theorem c22 : pack.ck1 r22 = true := by decide +kernel
theorem c23 : pack.ck1 r23 = true := by decide +kernel
theorem c24 : pack.ck1 r24 = true := by decide +kernel
theorem c25 : pack.ck1 r25 = true := by decide +kernel
theorem c26 : pack.ck1 r26 = true := by decide +kernel
theorem c27 : pack.ck1 r27 = true := by decide +kernel
theorem c28 : pack.ck1 r28 = true := by decide +kernel
theorem c29 : pack.ck1 r29 = true := by decide +kernel
theorem c30 : pack.ck1 r30 = true := by decide +kernel
theorem c31 : pack.ck1 r31 = true := by decide +kernel
theorem c32 : pack.ck1 r32 = true := by decide +kernel
theorem c33 : pack.ck1 r33 = true := by decide +kernel
theorem c34 : pack.ck1 r34 = true := by decide +kernel
theorem ck : ∀ r ∈ pack.recs, pack.ck1 r = true := (List.forall_mem_cons.mpr ⟨c0, (List.forall_mem_cons.mpr ⟨c1, (List.forall_mem_cons.mpr ⟨c2, (List.forall_mem_cons.mpr ⟨c3, (List.forall_mem_cons.mpr ⟨c4, (List.forall_mem_cons.mpr ⟨c5, (List.forall_mem_cons.mpr ⟨c6, (List.forall_mem_cons.mpr ⟨c7, (List.forall_mem_cons.mpr ⟨c8, (List.forall_mem_cons.mpr ⟨c9, (List.forall_mem_cons.mpr ⟨c10, (List.forall_mem_cons.mpr ⟨c11, (List.forall_mem_cons.mpr ⟨c12, (List.forall_mem_cons.mpr ⟨c13, (List.forall_mem_cons.mpr ⟨c14, (List.forall_mem_cons.mpr ⟨c15, (List.forall_mem_cons.mpr ⟨c16, (List.forall_mem_cons.mpr ⟨c17, (List.forall_mem_cons.mpr ⟨c18, (List.forall_mem_cons.mpr ⟨c19, (List.forall_mem_cons.mpr ⟨c20, (List.forall_mem_cons.mpr ⟨c21, (List.forall_mem_cons.mpr ⟨c22, (List.forall_mem_cons.mpr ⟨c23, (List.forall_mem_cons.mpr ⟨c24, (List.forall_mem_cons.mpr ⟨c25, (List.forall_mem_cons.mpr ⟨c26, (List.forall_mem_cons.mpr ⟨c27, (List.forall_mem_cons.mpr ⟨c28, (List.forall_mem_cons.mpr ⟨c29, (List.forall_mem_cons.mpr ⟨c30, (List.forall_mem_cons.mpr ⟨c31, (List.forall_mem_cons.mpr ⟨c32, (List.forall_mem_cons.mpr ⟨c33, (List.forall_mem_cons.mpr ⟨c34, (List.forall_mem_nil _)⟩)⟩)⟩)⟩)⟩)⟩)⟩)⟩)⟩)⟩)⟩)⟩)⟩)⟩)⟩)⟩)⟩)⟩)⟩)⟩)⟩)⟩)⟩)⟩)⟩)⟩)⟩)⟩)⟩)⟩)⟩)⟩)⟩)⟩)⟩)
/-! ### the head -/
def fn : List He.DefD := [d0, d1, d2, d3, d4, d5, d6, d7, d8, d9, d10, d11, d12, d13, d14, d15, d16, d17, d18, d19, d20, d21, d22, d23, d24, d25, d26, d27, d28, d29, d30, d31, d32, d33, d34]
def fa_0 : List He.Fa := [.glo "word_size", .glo "fields", .glo "slots", .glo "element_layout", .glo "wrap", .glo "case_named", .glo "inside", .glo "facts_of_value", .glo "facts_inside", .glo "facts_of", .glo "_law_tape", .glo "_law_draw", .glo "_law_name", .glo "_law_runs", .glo "_law_same", .glo "_law_size", .glo "_law_any_word", .glo "_law_a_count", .glo "_law_bounds", .glo "_law_a_field", .glo "_law_ranges", .glo "_law_a_number", .glo "_law_part", .glo "_law_case_numbers", .glo "_law_not_empty", .glo "_law_rich", .glo "_law_rich_item", .glo "_law_fixed", .glo "_law_rich_word", .glo "_law_rich_choice"]
def fa_1 : List He.Fa := [.glo "_law_a_row", .glo "_law_kinds", .glo "_law_facts", .glo "_law_facts_in", .glo "law", .free "len", .free "enumerate", .free "zip", .free "int", .free "abs", .free "list", .free "max", .free "range", .free "str", .free "tuple", .free "isinstance", .free "bool", .free "min", .free "sorted"]
def fa : List He.Fa := fa_0 ++ fa_1
def names_0 : List PySem.Str := ["word_size", "fields", "slots", "element_layout", "wrap", "case_named", "inside", "facts_of_value", "facts_inside", "facts_of", "_law_tape", "_law_draw", "_law_name", "_law_runs", "_law_same", "_law_size", "_law_any_word", "_law_a_count", "_law_bounds", "_law_a_field", "_law_ranges", "_law_a_number", "_law_part", "_law_case_numbers", "_law_not_empty", "_law_rich", "_law_rich_item", "_law_fixed", "_law_rich_word", "_law_rich_choice"]
def names_1 : List PySem.Str := ["_law_a_row", "_law_kinds", "_law_facts", "_law_facts_in", "WORD_SIZES", "COMPOSITES"]
def names : List PySem.Str := names_0 ++ names_1
abbrev R : PySem.W.OpenRow := PySem.W.OpenLaw.row PySem.Challenge.rw_bytebridge_k15_facts_of_a_record
def tabs : List He.Tab := [((fun K => He.ga K "WORD_SIZES"), ["u8", "u16be", "u16le", "u32be", "u32le"])]
def ex (K : PySem.W.Frag) : Bool := glosB K glo glod && dctsB K dct dctd
abbrev hk : PySem.W.Hook := He.hookX 4 fa fn tabs [] ex
def ob (s : PySem.W.SharedT) : He.AlX := He.obsX 4 fa fn tabs [] ex (HandSHeadRun.getT s)
theorem ob_eq (s : PySem.W.SharedT) : ob s = hk.obs s.abs := He.obsX_eq (HandSHeadRun.getT_eq s)
theorem run (w : World) : HandSHeadRun.RunEq R (PySem.W.view R.prog [40]) hk ob 4000 names w :=
  PySem.W.byRow2 "special-get-raises" (P := fun w => HandSHeadRun.RunEq R (PySem.W.view R.prog [40]) hk ob 4000 names w) (fun w => by intro os; kernel_rfl) (fun w => by intro os; kernel_rfl) w
theorem facts {w : World} {K : PySem.W.Frag} {h : Heap} {mg : Str → Option Value} (X : K.In h) (G : h.Ns mainGlobals mg) (cc : He.SaysX fa fn tabs [] ex w h K) : pack.Facts w K mg := by
  have c := cc.t.d
  have ee := He.ba cc.more
  refine ⟨(List.forall_mem_cons.mpr ⟨?_, (List.forall_mem_cons.mpr ⟨?_, (List.forall_mem_cons.mpr ⟨?_, (List.forall_mem_cons.mpr ⟨?_, (List.forall_mem_cons.mpr ⟨?_, (List.forall_mem_cons.mpr ⟨?_, (List.forall_mem_cons.mpr ⟨?_, (List.forall_mem_cons.mpr ⟨?_, (List.forall_mem_cons.mpr ⟨?_, (List.forall_mem_cons.mpr ⟨?_, (List.forall_mem_cons.mpr ⟨?_, (List.forall_mem_cons.mpr ⟨?_, (List.forall_mem_cons.mpr ⟨?_, (List.forall_mem_cons.mpr ⟨?_, (List.forall_mem_cons.mpr ⟨?_, (List.forall_mem_cons.mpr ⟨?_, (List.forall_mem_cons.mpr ⟨?_, (List.forall_mem_cons.mpr ⟨?_, (List.forall_mem_cons.mpr ⟨?_, (List.forall_mem_cons.mpr ⟨?_, (List.forall_mem_cons.mpr ⟨?_, (List.forall_mem_cons.mpr ⟨?_, (List.forall_mem_cons.mpr ⟨?_, (List.forall_mem_cons.mpr ⟨?_, (List.forall_mem_cons.mpr ⟨?_, (List.forall_mem_cons.mpr ⟨?_, (List.forall_mem_cons.mpr ⟨?_, (List.forall_mem_cons.mpr ⟨?_, (List.forall_mem_cons.mpr ⟨?_, (List.forall_mem_cons.mpr ⟨?_, (List.forall_mem_cons.mpr ⟨?_, (List.forall_mem_cons.mpr ⟨?_, (List.forall_mem_cons.mpr ⟨?_, (List.forall_mem_cons.mpr ⟨?_, (List.forall_mem_cons.mpr ⟨?_, (List.forall_mem_nil _)⟩)⟩)⟩)⟩)⟩)⟩)⟩)⟩)⟩)⟩)⟩)⟩)⟩)⟩)⟩)⟩)⟩)⟩)⟩)⟩)⟩)⟩)⟩)⟩)⟩)⟩)⟩)⟩)⟩)⟩)⟩)⟩)⟩)⟩)⟩), ?_, ?_, ?_⟩
  · obtain ⟨fd, F⟩ := c.def_ 0 (d := d0) rfl
    exact ⟨_, _, F, He.glo_ok X G (c.fact 0 (f := .glo "word_size") rfl), F.bindsA fun _ _ _ _ _ _ us hl => match us, hl with | [_], _ => rfl⟩
  · obtain ⟨fd, F⟩ := c.def_ 1 (d := d1) rfl
    exact ⟨_, _, F, He.glo_ok X G (c.fact 1 (f := .glo "fields") rfl), F.bindsA fun _ _ _ _ _ _ us hl => match us, hl with | [_], _ => rfl⟩
  · obtain ⟨fd, F⟩ := c.def_ 2 (d := d2) rfl
    exact ⟨_, _, F, He.glo_ok X G (c.fact 2 (f := .glo "slots") rfl), F.bindsA fun _ _ _ _ _ _ us hl => match us, hl with | [_], _ => rfl⟩
  · obtain ⟨fd, F⟩ := c.def_ 3 (d := d3) rfl
    exact ⟨_, _, F, He.glo_ok X G (c.fact 3 (f := .glo "element_layout") rfl), F.bindsA fun _ _ _ _ _ _ us hl => match us, hl with | [_], _ => rfl⟩
  · obtain ⟨fd, F⟩ := c.def_ 4 (d := d4) rfl
    exact ⟨_, _, F, He.glo_ok X G (c.fact 4 (f := .glo "wrap") rfl), F.bindsA fun _ _ _ _ _ _ us hl => match us, hl with | [_, _], _ => rfl⟩
  · obtain ⟨fd, F⟩ := c.def_ 5 (d := d5) rfl
    exact ⟨_, _, F, He.glo_ok X G (c.fact 5 (f := .glo "case_named") rfl), F.bindsA fun _ _ _ _ _ _ us hl => match us, hl with | [_, _], _ => rfl⟩
  · obtain ⟨fd, F⟩ := c.def_ 6 (d := d6) rfl
    exact ⟨_, _, F, He.glo_ok X G (c.fact 6 (f := .glo "inside") rfl), F.bindsA fun _ _ _ _ _ _ us hl => match us, hl with | [_, _], _ => rfl⟩
  · obtain ⟨fd, F⟩ := c.def_ 7 (d := d7) rfl
    exact ⟨_, _, F, He.glo_ok X G (c.fact 7 (f := .glo "facts_of_value") rfl), F.bindsA fun _ _ _ _ _ _ us hl => match us, hl with | [_, _, _], _ => rfl⟩
  · obtain ⟨fd, F⟩ := c.def_ 8 (d := d8) rfl
    exact ⟨_, _, F, He.glo_ok X G (c.fact 8 (f := .glo "facts_inside") rfl), F.bindsA fun _ _ _ _ _ _ us hl => match us, hl with | [_, _, _], _ => rfl⟩
  · obtain ⟨fd, F⟩ := c.def_ 9 (d := d9) rfl
    exact ⟨_, _, F, He.glo_ok X G (c.fact 9 (f := .glo "facts_of") rfl), F.bindsA fun _ _ _ _ _ _ us hl => match us, hl with | [_, _], _ => rfl⟩
  · obtain ⟨fd, F⟩ := c.def_ 10 (d := d10) rfl
    exact ⟨_, _, F, He.glo_ok X G (c.fact 10 (f := .glo "_law_tape") rfl), F.bindsA fun _ _ _ _ _ _ us hl => match us, hl with | [_], _ => rfl⟩
  · obtain ⟨fd, F⟩ := c.def_ 11 (d := d11) rfl
    exact ⟨_, _, F, He.glo_ok X G (c.fact 11 (f := .glo "_law_draw") rfl), F.bindsA fun _ _ _ _ _ _ us hl => match us, hl with | [_, _], _ => rfl⟩
  · obtain ⟨fd, F⟩ := c.def_ 12 (d := d12) rfl
    exact ⟨_, _, F, He.glo_ok X G (c.fact 12 (f := .glo "_law_name") rfl), F.bindsA fun _ _ _ _ _ _ us hl => match us, hl with | [_, _], _ => rfl⟩
  · obtain ⟨fd, F⟩ := c.def_ 13 (d := d13) rfl
    exact ⟨_, _, F, He.glo_ok X G (c.fact 13 (f := .glo "_law_runs") rfl), F.bindsA fun _ _ _ _ _ _ us hl => match us, hl with | [_], _ => rfl⟩
  · obtain ⟨fd, F⟩ := c.def_ 14 (d := d14) rfl
    exact ⟨_, _, F, He.glo_ok X G (c.fact 14 (f := .glo "_law_same") rfl), F.bindsA fun _ _ _ _ _ _ us hl => match us, hl with | [_, _], _ => rfl⟩
  · obtain ⟨fd, F⟩ := c.def_ 15 (d := d15) rfl
    exact ⟨_, _, F, He.glo_ok X G (c.fact 15 (f := .glo "_law_size") rfl), F.bindsA fun _ _ _ _ _ _ us hl => match us, hl with | [_], _ => rfl⟩
  · obtain ⟨fd, F⟩ := c.def_ 16 (d := d16) rfl
    exact ⟨_, _, F, He.glo_ok X G (c.fact 16 (f := .glo "_law_any_word") rfl), F.bindsA fun _ _ _ _ _ _ us hl => match us, hl with | [_], _ => rfl⟩
  · obtain ⟨fd, F⟩ := c.def_ 17 (d := d17) rfl
    exact ⟨_, _, F, He.glo_ok X G (c.fact 17 (f := .glo "_law_a_count") rfl), F.bindsA fun _ _ _ _ _ _ us hl => match us, hl with | [_, _, _], _ => rfl⟩
  · obtain ⟨fd, F⟩ := c.def_ 18 (d := d18) rfl
    exact ⟨_, _, F, He.glo_ok X G (c.fact 18 (f := .glo "_law_bounds") rfl), F.bindsA fun _ _ _ _ _ _ us hl => match us, hl with | [_], _ => rfl⟩
  · obtain ⟨fd, F⟩ := c.def_ 19 (d := d19) rfl
    exact ⟨_, _, F, He.glo_ok X G (c.fact 19 (f := .glo "_law_a_field") rfl), F.bindsA fun _ _ _ _ _ _ us hl => match us, hl with | [_, _, _], _ => rfl⟩
  · obtain ⟨fd, F⟩ := c.def_ 20 (d := d20) rfl
    exact ⟨_, _, F, He.glo_ok X G (c.fact 20 (f := .glo "_law_ranges") rfl), F.bindsA fun _ _ _ _ _ _ us hl => match us, hl with | [_, _, _, _], _ => rfl⟩
  · obtain ⟨fd, F⟩ := c.def_ 21 (d := d21) rfl
    exact ⟨_, _, F, He.glo_ok X G (c.fact 21 (f := .glo "_law_a_number") rfl), F.bindsA fun _ _ _ _ _ _ us hl => match us, hl with | [_, _, _, _], _ => rfl⟩
  · obtain ⟨fd, F⟩ := c.def_ 22 (d := d22) rfl
    exact ⟨_, _, F, He.glo_ok X G (c.fact 22 (f := .glo "_law_part") rfl), F.bindsA fun _ _ _ _ _ _ us hl => match us, hl with | [_, _, _], _ => rfl⟩
  · obtain ⟨fd, F⟩ := c.def_ 23 (d := d23) rfl
    exact ⟨_, _, F, He.glo_ok X G (c.fact 23 (f := .glo "_law_case_numbers") rfl), F.bindsA fun _ _ _ _ _ _ us hl => match us, hl with | [_, _, _], _ => rfl⟩
  · obtain ⟨fd, F⟩ := c.def_ 24 (d := d24) rfl
    exact ⟨_, _, F, He.glo_ok X G (c.fact 24 (f := .glo "_law_not_empty") rfl), F.bindsA fun _ _ _ _ _ _ us hl => match us, hl with | [_, _], _ => rfl⟩
  · obtain ⟨fd, F⟩ := c.def_ 25 (d := d25) rfl
    exact ⟨_, _, F, He.glo_ok X G (c.fact 25 (f := .glo "_law_rich") rfl), F.bindsA fun _ _ _ _ _ _ us hl => match us, hl with | [_, _, _], _ => rfl⟩
  · obtain ⟨fd, F⟩ := c.def_ 26 (d := d26) rfl
    exact ⟨_, _, F, He.glo_ok X G (c.fact 26 (f := .glo "_law_rich_item") rfl), F.bindsA fun _ _ _ _ _ _ us hl => match us, hl with | [_, _, _, _], _ => rfl⟩
  · obtain ⟨fd, F⟩ := c.def_ 27 (d := d27) rfl
    exact ⟨_, _, F, He.glo_ok X G (c.fact 27 (f := .glo "_law_fixed") rfl), F.bindsA fun _ _ _ _ _ _ us hl => match us, hl with | [_], _ => rfl⟩
  · obtain ⟨fd, F⟩ := c.def_ 28 (d := d28) rfl
    exact ⟨_, _, F, He.glo_ok X G (c.fact 28 (f := .glo "_law_rich_word") rfl), F.bindsA fun _ _ _ _ _ _ us hl => match us, hl with | [_, _], _ => rfl⟩
  · obtain ⟨fd, F⟩ := c.def_ 29 (d := d29) rfl
    exact ⟨_, _, F, He.glo_ok X G (c.fact 29 (f := .glo "_law_rich_choice") rfl), F.bindsA fun _ _ _ _ _ _ us hl => match us, hl with | [_, _, _, _], _ => rfl⟩
  · obtain ⟨fd, F⟩ := c.def_ 30 (d := d30) rfl
    exact ⟨_, _, F, He.glo_ok X G (c.fact 30 (f := .glo "_law_a_row") rfl), F.bindsA fun _ _ _ _ _ _ us hl => match us, hl with | [_, _], _ => rfl⟩
  · obtain ⟨fd, F⟩ := c.def_ 31 (d := d31) rfl
    exact ⟨_, _, F, He.glo_ok X G (c.fact 31 (f := .glo "_law_kinds") rfl), F.bindsA fun _ _ _ _ _ _ us hl => match us, hl with | [_], _ => rfl⟩
  · obtain ⟨fd, F⟩ := c.def_ 32 (d := d32) rfl
    exact ⟨_, _, F, He.glo_ok X G (c.fact 32 (f := .glo "_law_facts") rfl), F.bindsA fun _ _ _ _ _ _ us hl => match us, hl with | [_, _, _], _ => rfl⟩
  · obtain ⟨fd, F⟩ := c.def_ 33 (d := d33) rfl
    exact ⟨_, _, F, He.glo_ok X G (c.fact 33 (f := .glo "_law_facts_in") rfl), F.bindsA fun _ _ _ _ _ _ us hl => match us, hl with | [_, _, _], _ => rfl⟩
  · obtain ⟨fd, F⟩ := c.def_ 34 (d := d34) rfl
    exact ⟨_, _, F, He.glo_ok X G (c.fact 34 (f := .glo "law") rfl), F.bindsA fun _ _ _ _ _ _ us hl => match us, hl with | [_], _ => rfl⟩
  · exact (List.forall_mem_cons.mpr ⟨(He.free_ok X G (c.fact 35 (f := .free "len") rfl)), (List.forall_mem_cons.mpr ⟨(He.free_ok X G (c.fact 36 (f := .free "enumerate") rfl)), (List.forall_mem_cons.mpr ⟨(He.free_ok X G (c.fact 37 (f := .free "zip") rfl)), (List.forall_mem_cons.mpr ⟨(He.free_ok X G (c.fact 38 (f := .free "int") rfl)), (List.forall_mem_cons.mpr ⟨(He.free_ok X G (c.fact 39 (f := .free "abs") rfl)), (List.forall_mem_cons.mpr ⟨(He.free_ok X G (c.fact 40 (f := .free "list") rfl)), (List.forall_mem_cons.mpr ⟨(He.free_ok X G (c.fact 41 (f := .free "max") rfl)), (List.forall_mem_cons.mpr ⟨(He.free_ok X G (c.fact 42 (f := .free "range") rfl)), (List.forall_mem_cons.mpr ⟨(He.free_ok X G (c.fact 43 (f := .free "str") rfl)), (List.forall_mem_cons.mpr ⟨(He.free_ok X G (c.fact 44 (f := .free "tuple") rfl)), (List.forall_mem_cons.mpr ⟨(He.free_ok X G (c.fact 45 (f := .free "isinstance") rfl)), (List.forall_mem_cons.mpr ⟨(He.free_ok X G (c.fact 46 (f := .free "bool") rfl)), (List.forall_mem_cons.mpr ⟨(He.free_ok X G (c.fact 47 (f := .free "min") rfl)), (List.forall_mem_cons.mpr ⟨(He.free_ok X G (c.fact 48 (f := .free "sorted") rfl)), (List.forall_mem_nil _)⟩)⟩)⟩)⟩)⟩)⟩)⟩)⟩)⟩)⟩)⟩)⟩)⟩)⟩)
  · exact glosB_ok X G ee.1
  · exact dctsB_ok X G (fun g y hy => by
      cases g with
      | zero => cases hy; exact cc.t.tab 0 (t := ((fun K => He.ga K "WORD_SIZES"), ["u8", "u16be", "u16le", "u32be", "u32le"])) rfl
      | succ g => cases hy) ee.2
end Lk15
namespace Lk15
open PySem L2 MP
abbrev I : Ix := { word_size := 0, fields := 1, slots := 2, element_layout := 3, wrap := 4, case_named := 5, inside := 6, facts_of_value := 7, facts_inside := 8, facts_of := 9, law_tape := 10, law_draw := 11, law_name := 12, law_runs := 13, law_same := 14, law_size := 15, law_any_word := 16, law_a_count := 17, law_bounds := 18, law_a_field := 19, law_ranges := 20, law_a_number := 21, law_part := 22, law_case_numbers := 23, law_not_empty := 24, law_rich := 25, law_rich_item := 26, law_fixed := 27, law_rich_word := 28, law_rich_choice := 29, law_a_row := 30, law_kinds := 31, law_facts := 32, law_facts_in := 33, g_COMPOSITES := 0, d_WORD_SIZES := 0 }
theorem hRich : Rich pg I := ⟨rfl, rfl, rfl, rfl, rfl, rfl, rfl, rfl, rfl, rfl, rfl, rfl, rfl, rfl, rfl, rfl, rfl, rfl⟩
theorem hMb : Mb pg I := ⟨rfl, rfl⟩
theorem hKd : Kd pg I := ⟨rfl⟩
theorem hWsz : Wsz pg I := ⟨rfl⟩
theorem hRw : Rw pg I := ⟨rfl, rfl⟩
theorem hFc : Fc pg I := ⟨rfl, rfl, rfl, rfl, rfl, rfl, rfl⟩
theorem hLf : Lf pg I := ⟨rfl, rfl⟩
theorem hSmo : Smo pg I := ⟨rfl⟩
theorem io_0 : pg.io 0 = [false] := rfl
theorem io_1 : pg.io 1 = [false] := rfl
theorem io_2 : pg.io 2 = [false] := rfl
theorem io_3 : pg.io 3 = [false] := rfl
theorem io_4 : pg.io 4 = [false, false] := rfl
theorem io_5 : pg.io 5 = [false, false] := rfl
theorem io_6 : pg.io 6 = [false, false] := rfl
theorem io_7 : pg.io 7 = [false, false, false] := rfl
theorem io_8 : pg.io 8 = [false, false, false] := rfl
theorem io_9 : pg.io 9 = [false, false] := rfl
theorem io_10 : pg.io 10 = [false] := rfl
theorem io_11 : pg.io 11 = [true, false] := rfl
theorem io_12 : pg.io 12 = [true, true] := rfl
theorem io_13 : pg.io 13 = [false] := rfl
theorem io_14 : pg.io 14 = [true, false] := rfl
theorem io_15 : pg.io 15 = [false] := rfl
theorem io_16 : pg.io 16 = [true] := rfl
theorem io_17 : pg.io 17 = [true, false, false] := rfl
theorem io_18 : pg.io 18 = [false] := rfl
theorem io_19 : pg.io 19 = [true, false, false] := rfl
theorem io_20 : pg.io 20 = [true, false, false, false] := rfl
theorem io_21 : pg.io 21 = [true, false, false, false] := rfl
theorem io_22 : pg.io 22 = [true, true, false] := rfl
theorem io_23 : pg.io 23 = [true, false, false] := rfl
theorem io_24 : pg.io 24 = [true, false] := rfl
theorem io_25 : pg.io 25 = [true, false, false] := rfl
theorem io_26 : pg.io 26 = [true, true, false, false] := rfl
theorem io_27 : pg.io 27 = [true] := rfl
theorem io_28 : pg.io 28 = [true, true] := rfl
theorem io_29 : pg.io 29 = [true, false, false, false] := rfl
theorem io_30 : pg.io 30 = [true, false] := rfl
theorem io_31 : pg.io 31 = [false] := rfl
theorem io_32 : pg.io 32 = [false, false, false] := rfl
theorem io_33 : pg.io 33 = [false, false, false] := rfl
theorem io_34 : pg.io 34 = [false] := rfl
local macro_rules | `(tactic| wp_walk) => `(tactic| simp -implicitDefEqProofs (disch := first | assumption | omega | (simp only [List.length_cons, List.length_nil, List.length_map, List.length_append]; omega)) only [MP.bnd_ap, MP.bX_ok, MP.thenS_ap, MP.tX_ok, MP.seqS_nx, MP.seqS_rt, MP.seqS_bk, MP.seqS_ct, MP.ret_ap, MP.opt_some, MP.when_true, MP.evB_nil, MP.evB_cons, MP.evS_asg, MP.evS_asgT, MP.evS_aug, MP.evS_setix, MP.evS_par, MP.sets_nil, MP.sets_cons, MP.evS_ex, MP.evS_ite, MP.evS_for, MP.evS_whl, MP.evS_ret, MP.evS_retN, MP.evS_brk, MP.evS_cont, MP.evS_pass, MP.selS_true, MP.selS_false, MP.selM_true, MP.selM_false, MP.slK_ap, MP.itK_ap, MP.tru_ap, MP.fz_ap, MP.var_v, MP.var_t, MP.var_o, MP.var_i, MP.int_v, MP.int_o, MP.str_v, MP.str_o, MP.bl_v, MP.bl_o, MP.bl_t, MP.non_v, MP.non_o, MP.glo_v, MP.glo_o, MP.glo_i, MP.tup_v, MP.tup_o, MP.tup_i, MP.lst_v, MP.lst_o, MP.lst_i, MP.bin_v, MP.bin_o, MP.bin_t, MP.bin_i, MP.negK_int, MP.neg_v, MP.neg_o, MP.not_v, MP.not_t, MP.not_o, MP.isB_bl, MP.and_v, MP.and_t, MP.and_o, MP.or_v, MP.or_t, MP.or_o, MP.cmp_t, MP.cmp_v, MP.cmp_o, MP.cmp2_t, MP.cmp2_v, MP.cmp2_o, MP.ite_v, MP.ite_o, MP.ite_i, MP.kix_v, MP.kix_o, MP.ix_v, MP.ix_o, MP.ix_t, MP.ix_i, MP.sl_v, MP.sl_o, MP.sl_i, MP.rev_v, MP.rev_o, MP.rev_i, MP.revK_t, MP.revK_l, MP.call_v, MP.call_o, MP.call_t, MP.call_i, MP.bi_v, MP.bi_o, MP.bi_t, MP.bi_i, MP.isi_v, MP.isi_o, MP.isi_t, MP.app_v, MP.ext_v, MP.pop_v, MP.pop_o, MP.revm_v, MP.rng_i, MP.dic_v, MP.dic_o, MP.lrng_v, MP.lrng_o, MP.lrng_i, MP.enu_i, MP.lc_v, MP.lc_o, MP.lc_i, MP.evs_nil, MP.evs_cons, MP.vals_nil, MP.vals_cons, MP.opds_nil, MP.opds_cons, MP.rdOs_nil, MP.rdOs_cons, MP.args_nil, MP.args_t, MP.args_f, MP.rdO_at, MP.rdO_sl, MP.d_val, MP.d_own, MP.d_lk, MP.opAt_ap, MP.opAtS_val, MP.opAtS_own, MP.opAtS_lk, MP.cap_ap, MP.capS_some, MP.retV_var, MP.retS_own, MP.retS_val, MP.ownAt_ap, MP.ownS_own, MP.chg_ap, MP.chgS_own, MP.chgO_some, MP.setAt_int, MP.itO_at', MP.itS_own, MP.itS_val, MP.itO_sl', MP.part_nil, MP.part_cons, MP.partK_int, MP.extK_lst, MP.callM_ap, MP.endC_ok, MP.takes_nil, MP.takes_at, MP.takes_sl, MP.backs_at, MP.backs_sl, MP.backs_nil, MP.lent_t, MP.lent_f, MP.lent_n, MP.endF_rt, MP.endF_nx, MP.onFr_nx, MP.onFr_rt, MP.unlk_nil, MP.retV_int, MP.retV_str, MP.retV_bl, MP.retV_non, MP.retV_glo, MP.retV_tup, MP.retV_lst, MP.retV_dic, MP.retV_bin, MP.retV_neg, MP.retV_not, MP.retV_and, MP.retV_or, MP.retV_cmp, MP.retV_cmp2, MP.retV_ite, MP.retV_kix, MP.retV_ix, MP.retV_sl, MP.retV_rev, MP.retV_call, MP.retV_bi, MP.retV_isi, MP.retV_mt, MP.retV_pop, MP.retV_lrng, MP.retV_lc, MP.retV_fs, MP.sl0, MP.sl1, MP.sl2, MP.sl3, MP.sl4, MP.sl5, MP.sl6, MP.sl7, MP.sl8, MP.sl9, MP.sl10, MP.sl11, MP.set0, MP.set1, MP.set2, MP.set3, MP.set4, MP.set5, MP.set6, MP.set7, MP.set8, MP.set9, MP.set10, MP.set11, MP.add_i, MP.sub_i, MP.pow_i, MP.and_i, MP.or_i, MP.xor_i, MP.eq_i, MP.ne_i, MP.lt_i, MP.le_i, MP.gt_i, MP.ge_i, MP.eq_s, MP.ne_s, MP.ix_l, MP.ix_t', MP.len_l, MP.len_t, MP.abs_i, MP.int_i, MP.max_i, MP.min_i, MP.list_l, MP.list_t, MP.list_s, MP.tuple_l, MP.omap_some, MP.obind_some, decide_true, decide_false, MP.tr_bl, MP.isi_ii, MP.isi_ib, MP.turnO_ap, MP.asgT_v, MP.asgT_tup, MP.asgTs_nil, MP.asgTs_cons, MP.forK_ap, MP.lcM_ap, MP.lcStep_ap, MP.wipeF_nil, MP.wipeF_cons, MP.putF_nil, MP.putF_cons, MP.ifsM_nil, MP.ifsM_cons, MP.seqI_l, MP.seqI_t, MP.seqI_s, MP.sEq, MP.atI_0, MP.atI_1, MP.atI_2, MP.atI_3, MP.atI_4, MP.atI_5, MP.atI_6, MP.atI_mapp, MP.atI_m1, MP.sz_if, MP.dlt_t, MP.dlt_f, MP.dle_t, MP.dle_f, MP.beq_t, MP.beq_f, MP.bne_t, MP.bne_f, MP.mul_okr, MP.mul_okl, MP.fdiv_ok, MP.mod_ok, MP.shl1_ok, MP.shl_ok, MP.shr_ok, MP.add_t, MP.add_lo, MP.add_so, MP.app_ok, MP.ext_ok, MP.rng1_ok, MP.rng2_ok, MP.eq_n, MP.ne_n, MP.isN_n, MP.isN_i, MP.isN_s, MP.isN_t, MP.isN_l, MP.isN_b, MP.tr_t, MP.tr_l, MP.tr_i, MP.kix_s, MP.look_c, MP.look_n, MP.ixd, MP.key_i, MP.key_s, MP.dl_c, MP.sum_ii, MP.sum_ss, MP.isi_tt, MP.isi_tl, MP.isi_ts, MP.isi_tb, MP.isi_ti, MP.isi_ll, MP.isi_lt, MP.isi_ss, MP.isi_st, MP.isi_sl, MP.isi_sb, MP.isi_si, MP.isi_is, MP.isi_it, MP.isi_il, MP.isi_bb, MP.isi_bi, MP.isi_bt, MP.isi_blx, MP.isi_nt, MP.isi_nl, MP.isi_nb, MP.isi_ni, MP.isi_ns, MP.eq_b, MP.sl12, MP.sl13, MP.sl14, MP.set12, MP.set13, MP.set14, MP.lc_t, MP.part_mn, MP.part_mc, MP.enuOk_l, MP.enuOk_t, MP.zip_i, MP.zipV_ll, MP.zipV_lt, MP.zipV_tl, MP.zipV_tt, MP.fs_v, MP.fs_o, MP.fsM_n, MP.fsM_c, MP.strOf_s, MP.sl_t, MP.sl_l, MP.mt_v, MP.mt_o, MP.mt_t, MP.mt_i, MP.ty_split, MP.ty_endswith, MP.ty_startswith, MP.ty_join, MP.ty_index, MP.ty_get, MP.csat_ok, MP.tsat_nx, MP.tsat_ct, MP.unlk_c, ↓reduceIte, String.reduceEq, Int.reduceEq, Int.reduceLT, Int.reduceLE, Int.reduceAdd, Int.reduceSub, Int.reduceMul, Int.reduceNeg, Int.reduceToNat, Nat.reduceAdd, Nat.reduceSub, List.length_cons, List.length_nil, Int.one_mul, Bool.not_true, Bool.not_false, Bool.and_true, Bool.true_and, Bool.and_false, Bool.false_and, Bool.or_true, Bool.true_or, Bool.or_false, Bool.false_or, List.isEmpty_cons, List.isEmpty_nil, List.cons_append, List.nil_append, List.append_nil, io_0, io_1, io_2, io_3, io_4, io_5, io_6, io_7, io_8, io_9, io_10, io_11, io_12, io_13, io_14, io_15, io_16, io_17, io_18, io_19, io_20, io_21, io_22, io_23, io_24, io_25, io_26, io_27, io_28, io_29, io_30, io_31, io_32, io_33, io_34])
local macro_rules | `(tactic| wp_walk using $ts:term,*) => `(tactic| simp -implicitDefEqProofs (disch := first | assumption | omega | (simp only [List.length_cons, List.length_nil, List.length_map, List.length_append]; omega)) only [MP.bnd_ap, MP.bX_ok, MP.thenS_ap, MP.tX_ok, MP.seqS_nx, MP.seqS_rt, MP.seqS_bk, MP.seqS_ct, MP.ret_ap, MP.opt_some, MP.when_true, MP.evB_nil, MP.evB_cons, MP.evS_asg, MP.evS_asgT, MP.evS_aug, MP.evS_setix, MP.evS_par, MP.sets_nil, MP.sets_cons, MP.evS_ex, MP.evS_ite, MP.evS_for, MP.evS_whl, MP.evS_ret, MP.evS_retN, MP.evS_brk, MP.evS_cont, MP.evS_pass, MP.selS_true, MP.selS_false, MP.selM_true, MP.selM_false, MP.slK_ap, MP.itK_ap, MP.tru_ap, MP.fz_ap, MP.var_v, MP.var_t, MP.var_o, MP.var_i, MP.int_v, MP.int_o, MP.str_v, MP.str_o, MP.bl_v, MP.bl_o, MP.bl_t, MP.non_v, MP.non_o, MP.glo_v, MP.glo_o, MP.glo_i, MP.tup_v, MP.tup_o, MP.tup_i, MP.lst_v, MP.lst_o, MP.lst_i, MP.bin_v, MP.bin_o, MP.bin_t, MP.bin_i, MP.negK_int, MP.neg_v, MP.neg_o, MP.not_v, MP.not_t, MP.not_o, MP.isB_bl, MP.and_v, MP.and_t, MP.and_o, MP.or_v, MP.or_t, MP.or_o, MP.cmp_t, MP.cmp_v, MP.cmp_o, MP.cmp2_t, MP.cmp2_v, MP.cmp2_o, MP.ite_v, MP.ite_o, MP.ite_i, MP.kix_v, MP.kix_o, MP.ix_v, MP.ix_o, MP.ix_t, MP.ix_i, MP.sl_v, MP.sl_o, MP.sl_i, MP.rev_v, MP.rev_o, MP.rev_i, MP.revK_t, MP.revK_l, MP.call_v, MP.call_o, MP.call_t, MP.call_i, MP.bi_v, MP.bi_o, MP.bi_t, MP.bi_i, MP.isi_v, MP.isi_o, MP.isi_t, MP.app_v, MP.ext_v, MP.pop_v, MP.pop_o, MP.revm_v, MP.rng_i, MP.dic_v, MP.dic_o, MP.lrng_v, MP.lrng_o, MP.lrng_i, MP.enu_i, MP.lc_v, MP.lc_o, MP.lc_i, MP.evs_nil, MP.evs_cons, MP.vals_nil, MP.vals_cons, MP.opds_nil, MP.opds_cons, MP.rdOs_nil, MP.rdOs_cons, MP.args_nil, MP.args_t, MP.args_f, MP.rdO_at, MP.rdO_sl, MP.d_val, MP.d_own, MP.d_lk, MP.opAt_ap, MP.opAtS_val, MP.opAtS_own, MP.opAtS_lk, MP.cap_ap, MP.capS_some, MP.retV_var, MP.retS_own, MP.retS_val, MP.ownAt_ap, MP.ownS_own, MP.chg_ap, MP.chgS_own, MP.chgO_some, MP.setAt_int, MP.itO_at', MP.itS_own, MP.itS_val, MP.itO_sl', MP.part_nil, MP.part_cons, MP.partK_int, MP.extK_lst, MP.callM_ap, MP.endC_ok, MP.takes_nil, MP.takes_at, MP.takes_sl, MP.backs_at, MP.backs_sl, MP.backs_nil, MP.lent_t, MP.lent_f, MP.lent_n, MP.endF_rt, MP.endF_nx, MP.onFr_nx, MP.onFr_rt, MP.unlk_nil, MP.retV_int, MP.retV_str, MP.retV_bl, MP.retV_non, MP.retV_glo, MP.retV_tup, MP.retV_lst, MP.retV_dic, MP.retV_bin, MP.retV_neg, MP.retV_not, MP.retV_and, MP.retV_or, MP.retV_cmp, MP.retV_cmp2, MP.retV_ite, MP.retV_kix, MP.retV_ix, MP.retV_sl, MP.retV_rev, MP.retV_call, MP.retV_bi, MP.retV_isi, MP.retV_mt, MP.retV_pop, MP.retV_lrng, MP.retV_lc, MP.retV_fs, MP.sl0, MP.sl1, MP.sl2, MP.sl3, MP.sl4, MP.sl5, MP.sl6, MP.sl7, MP.sl8, MP.sl9, MP.sl10, MP.sl11, MP.set0, MP.set1, MP.set2, MP.set3, MP.set4, MP.set5, MP.set6, MP.set7, MP.set8, MP.set9, MP.set10, MP.set11, MP.add_i, MP.sub_i, MP.pow_i, MP.and_i, MP.or_i, MP.xor_i, MP.eq_i, MP.ne_i, MP.lt_i, MP.le_i, MP.gt_i, MP.ge_i, MP.eq_s, MP.ne_s, MP.ix_l, MP.ix_t', MP.len_l, MP.len_t, MP.abs_i, MP.int_i, MP.max_i, MP.min_i, MP.list_l, MP.list_t, MP.list_s, MP.tuple_l, MP.omap_some, MP.obind_some, decide_true, decide_false, MP.tr_bl, MP.isi_ii, MP.isi_ib, MP.turnO_ap, MP.asgT_v, MP.asgT_tup, MP.asgTs_nil, MP.asgTs_cons, MP.forK_ap, MP.lcM_ap, MP.lcStep_ap, MP.wipeF_nil, MP.wipeF_cons, MP.putF_nil, MP.putF_cons, MP.ifsM_nil, MP.ifsM_cons, MP.seqI_l, MP.seqI_t, MP.seqI_s, MP.sEq, MP.atI_0, MP.atI_1, MP.atI_2, MP.atI_3, MP.atI_4, MP.atI_5, MP.atI_6, MP.atI_mapp, MP.atI_m1, MP.sz_if, MP.dlt_t, MP.dlt_f, MP.dle_t, MP.dle_f, MP.beq_t, MP.beq_f, MP.bne_t, MP.bne_f, MP.mul_okr, MP.mul_okl, MP.fdiv_ok, MP.mod_ok, MP.shl1_ok, MP.shl_ok, MP.shr_ok, MP.add_t, MP.add_lo, MP.add_so, MP.app_ok, MP.ext_ok, MP.rng1_ok, MP.rng2_ok, MP.eq_n, MP.ne_n, MP.isN_n, MP.isN_i, MP.isN_s, MP.isN_t, MP.isN_l, MP.isN_b, MP.tr_t, MP.tr_l, MP.tr_i, MP.kix_s, MP.look_c, MP.look_n, MP.ixd, MP.key_i, MP.key_s, MP.dl_c, MP.sum_ii, MP.sum_ss, MP.isi_tt, MP.isi_tl, MP.isi_ts, MP.isi_tb, MP.isi_ti, MP.isi_ll, MP.isi_lt, MP.isi_ss, MP.isi_st, MP.isi_sl, MP.isi_sb, MP.isi_si, MP.isi_is, MP.isi_it, MP.isi_il, MP.isi_bb, MP.isi_bi, MP.isi_bt, MP.isi_blx, MP.isi_nt, MP.isi_nl, MP.isi_nb, MP.isi_ni, MP.isi_ns, MP.eq_b, MP.sl12, MP.sl13, MP.sl14, MP.set12, MP.set13, MP.set14, MP.lc_t, MP.part_mn, MP.part_mc, MP.enuOk_l, MP.enuOk_t, MP.zip_i, MP.zipV_ll, MP.zipV_lt, MP.zipV_tl, MP.zipV_tt, MP.fs_v, MP.fs_o, MP.fsM_n, MP.fsM_c, MP.strOf_s, MP.sl_t, MP.sl_l, MP.mt_v, MP.mt_o, MP.mt_t, MP.mt_i, MP.ty_split, MP.ty_endswith, MP.ty_startswith, MP.ty_join, MP.ty_index, MP.ty_get, MP.csat_ok, MP.tsat_nx, MP.tsat_ct, MP.unlk_c, ↓reduceIte, String.reduceEq, Int.reduceEq, Int.reduceLT, Int.reduceLE, Int.reduceAdd, Int.reduceSub, Int.reduceMul, Int.reduceNeg, Int.reduceToNat, Nat.reduceAdd, Nat.reduceSub, List.length_cons, List.length_nil, Int.one_mul, Bool.not_true, Bool.not_false, Bool.and_true, Bool.true_and, Bool.and_false, Bool.false_and, Bool.or_true, Bool.true_or, Bool.or_false, Bool.false_or, List.isEmpty_cons, List.isEmpty_nil, List.cons_append, List.nil_append, List.append_nil, io_0, io_1, io_2, io_3, io_4, io_5, io_6, io_7, io_8, io_9, io_10, io_11, io_12, io_13, io_14, io_15, io_16, io_17, io_18, io_19, io_20, io_21, io_22, io_23, io_24, io_25, io_26, io_27, io_28, io_29, io_30, io_31, io_32, io_33, io_34, $[$ts:term],*])
theorem plain (ns : List Int) (h : ns.length ≤ 63) : ∃ ps, callF pg 200 60 34 [.val (.scr ns)] = .ok (.val (.bl true)) ps := by
  suffices hh : CSat (callF pg 200 60 34 [.val (.scr ns)]) fun s ps => s = .val (.bl true) by
    obtain ⟨s, ps, e, rfl⟩ := hh.get; exact ⟨ps, e⟩
  have hd : pg.dct[I.d_WORD_SIZES]? = some wsD := rfl
  have hg : pg.glo[I.g_COMPOSITES]? = some compD := rfl
  obtain ⟨t, et, tp⟩ := tapeA (P := pg) (wn := 200) (kk := 59) (i := 10) hRich.law_tape (by decide) ns h
  obtain ⟨_, _, er, its, sp, t1, rfl, hL, ⟨_, hW, hS⟩, rfl, tp⟩ := (hRich.rich (wn := 200) 3 59 (by decide) t tp 390).get
  have er : callF pg 200 59 25 [.own t, .val (.int 3), .val (.int 390)] = .ok (.val (.tup [lay its, .int sp])) [.own t1, .un, .un] := er
  obtain ⟨_, _, ew, row, t2, rfl, hR, rfl, tp⟩ := (hRw.row hRich (wn := 200) 3 59 its t1 (by decide) hL tp).get
  have ew : callF pg 200 59 30 [.own t1, .val (lay its)] = .ok (.val (.tup row)) [.own t2, .un] := ew
  have hw : Item.wts its ≤ 100000 := by omega
  have ef : callF pg 200 59 9 [.val (lay its), .val (.tup row)] = .ok (.own (rF 3 its row (Str.ofString ""))) [.un, .un] := hFc.of_ok hMb hWsz hd hg (wn := 200) (kk := 59) (by decide) hL hR hw (by decide)
  have el : callF pg 200 59 32 [.val (lay its), .val (.tup row), .val (.str (Str.ofString ""))] = .ok (.own (rF 3 its row (Str.ofString ""))) [.un, .un, .un] := hLf.facts hKd hRich (wn := 200) 3 59 its row (Str.ofString "") (by decide) hL hR hw (by decide +kernel) (by decide +kernel)
  obtain ⟨hlen, hsc⟩ := row_len 3 its row (Str.ofString "") hL hR
  have hpl : Pl 2 (.lst (rF 3 its row (Str.ofString ""))) := by
    refine ⟨by omega, fun x hx => ?_⟩
    obtain ⟨p, v, rfl, hv⟩ := hsc x hx
    refine ⟨show 2 ≤ 100000 by decide, fun y hy => ?_⟩
    simp only [List.mem_cons, List.not_mem_nil, or_false] at hy
    rcases hy with rfl | rfl
    · trivial
    · exact hv
  have hlen : (rF 3 its row (Str.ofString "")).length ≤ 100000 := by omega
  have es : callF pg 200 59 14 [.own (rF 3 its row (Str.ofString "")), .val (.lst (rF 3 its row (Str.ofString "")))] = .ok (.val (.bl true)) [.own (rF 3 its row (Str.ofString "")), .un] := hSmo.same (wn := 200) 2 59 _ _ (by decide) hpl (.inr ⟨_, rfl, rfl⟩)
  rw [callF_succ pg 200 59 (i := 34) (d := f34) rfl _ rfl]
  unfold f34
  simp only [List.length_cons, List.length_nil, List.reduceReplicate, Nat.reduceSub, Nat.reduceAdd, List.cons_append, List.nil_append]
  generalize rF 3 its row (Str.ofString "") = fs at *
  clear hd hg hpl hsc
  have lN : (fs ++ [D.tup [.str (Str.ofString "x"), .int 0]]).length = fs.length + 1 := by simp
  have eix : ixN (fs ++ [D.tup [.str (Str.ofString "x"), .int 0]]).length 0 = some 0 := by rw [lN]; exact ixN_ok (by decide) (by omega)
  generalize callF pg 200 59 = cl at *
  wp_walk using et, er, ew, el, ef, es, eix
end Lk15
open PySem PySem.W PySem.Calls PyProof.Rows
theorem PySem.Challenge.cw_bytebridge_k15_facts_of_a_record_holds : PySem.Challenge.rw_bytebridge_k15_facts_of_a_record.Holds := by
  w_on; o_law
  refine HandSHeadRun.head_any (r := OpenLaw.row PySem.Challenge.rw_bytebridge_k15_facts_of_a_record) (q := view (OpenLaw.row PySem.Challenge.rw_bytebridge_k15_facts_of_a_record).prog [40]) (H := Lk15.hk) (ob := Lk15.ob) (M := 4000) (loose := Lk15.names) (d := HandSHeadRun.topDef (OpenLaw.row PySem.Challenge.rw_bytebridge_k15_facts_of_a_record).prog 40) (kwd := []) Lk15.ob_eq
    (by kernel_rfl) (fun s => by kernel_rfl) Lk15.run (by kernel_rfl) (by kernel_rfl) (by kernel_rfl) (by rfl) (by first | assumption | decide +kernel) (by decide +kernel) ⟨rfl, rfl, rfl, rfl, rfl, by decide +kernel⟩ ?hw ?hc
  case hw => w_witness2
  case hc =>
    refine L2.walk_ofE (l := PySem.Challenge.rw_bytebridge_k15_facts_of_a_record) (n := 63) (k := 60) (x := "_law_script") (CX := MP.CXw PySem.Challenge.rw_bytebridge_k15_facts_of_a_record.prog) rfl (by decide) (by kernel_rfl) ⟨rfl, by decide, by decide⟩ ?F MP.cxw_no
    intro w mg fa h Y G hmg0
    obtain ⟨K, KX, c⟩ := Y
    have hmg : mg ("law" : PySem.Str) = some (.ref fa) := by
      have e : (HandSHeadRun.topDef (OpenLaw.row PySem.Challenge.rw_bytebridge_k15_facts_of_a_record).prog 40).name = ("law" : PySem.Str) := by kernel_rfl
      rw [← e]
      exact hmg0
    exact MP.law_end (wn := 200) (i := 34) (r := Lk15.r34) KX hmg (fun mg G => Lk15.facts KX G c) G Lk15.ck rfl rfl rfl (fun ns h => Lk15.plain ns h)
