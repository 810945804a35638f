import PyProof.Rows.All
import Wide.All
import OpenK.AllK
import Wide.FinOn
import HandS.ForMost
import HandS.ForExc
import HandS.Wide
import HandS.IsInst
import HandS.Style
import HandS.TupAny
import HandS.TupMul
import HandS.TupLe
import PyProof.ReprRoads
import HandS.CallLocal
import HandS.Defaults
import HandS.Head0
import HandS.Head1
import HandS.Head2
import HandS.HeadEnd
import HandS.HeadHook1
import HandS.HeadHook2
import KE.KStateDown
import PySem.Challenge.RW_turnseries_k70_whole_shapes_reduced
set_option Elab.async false
set_option linter.all false
set_option maxRecDepth 100000
set_option maxHeartbeats 4000000
namespace Ev
open PySem L2

/-! ## the data, the store -/
inductive Ty where | int | bool | str | tuple | list | dict | nonety
  deriving DecidableEq
def Ty.nm : Ty → String | .int => "int" | .bool => "bool" | .str => "str" | .tuple => "tuple" | .list => "list" | .dict => "dict" | .nonety => "NoneType"
inductive D where
  | non | bl (b : Bool) | int (i : Int) | str (s : Str) | tup (ds : List D) | ref (n : Nat) | fn (k : Nat) | ty (t : Ty)
/-- a list; a list that is only read now; a list of the module (only read) -/
inductive O where
  | lst (ds : List D) | rol (ds : List D) | kol (ds : List D) | scr (ns : List Int)
structure Mem where
  nx : Nat
  ob : List (Nat × O)
def look (n : Nat) : List (Nat × O) → Option O
  | [] => none
  | (k, o) :: r => match Nat.beq n k with | true => some o | false => look n r
def repl (n : Nat) (o : O) : List (Nat × O) → List (Nat × O)
  | [] => []
  | (k, u) :: r => match Nat.beq n k with | true => (k, o) :: r | false => (k, u) :: repl n o r
def Mem.get (m : Mem) (n : Nat) : Option O := look n m.ob
def Mem.put (m : Mem) (n : Nat) (o : O) : Mem := ⟨m.nx, repl n o m.ob⟩
def Mem.new (m : Mem) (o : O) : Mem := ⟨m.nx + 1, (m.nx, o) :: m.ob⟩
def Mem.lst (m : Mem) (n : Nat) : Option (List D) := match m.get n with
  | some (.lst ds) => some ds
  | some (.rol ds) => some ds
  | some (.kol ds) => some ds
  | some (.scr ns) => some (ns.map D.int)
  | none => none
/-! ### what is no longer wanted is forgotten -/
mutual
/-- no list named that is not below n -/
def lowD (n : Nat) : D → Bool
  | .ref k => Nat.blt k n
  | .tup ds => lowDs n ds
  | _ => true
def lowDs (n : Nat) : List D → Bool
  | [] => true
  | d :: ds => match lowD n d with | true => lowDs n ds | false => false
end
def lowO (n : Nat) : O → Bool
  | .lst ds => lowDs n ds
  | .rol ds => lowDs n ds
  | .kol ds => lowDs n ds
  | .scr _ => true
def gcL (n : Nat) : List (Nat × O) → List (Nat × O)
  | [] => []
  | (k, o) :: r => match Nat.blt k n with | true => (k, o) :: gcL n r | false => gcL n r
def lowM (n : Nat) : List (Nat × O) → Bool
  | [] => true
  | (k, o) :: r => match Nat.blt k n with
    | true => (match lowO n o with | true => lowM n r | false => false)
    | false => lowM n r
def cutM (n : Nat) (m : Mem) : Mem := ⟨n, gcL n m.ob⟩
def canCut (n : Nat) (m : Mem) : Bool := match Nat.beq m.nx n with | true => false | false => lowM n m.ob
def tdM (n : Nat) (m : Mem) : Mem := match canCut n m with | true => cutM n m | false => m
structure Ex where
  cls : Nat
  arg : List D
inductive Out (α : Type) where
  | ok (a : α) (m : Mem) | exc (x : Ex) (m : Mem) | bad
abbrev MV (α : Type) := Mem → Out α
def Out.bind {α β : Type} (o : Out α) (f : α → MV β) : Out β := match o with
  | .ok a m => f a m
  | .exc x m => .exc x m
  | .bad => .bad
def okk {α : Type} (a : α) : MV α := fun m => .ok a m
def opt {α : Type} (o : Option α) : MV α := fun m => match o with | some a => .ok a m | none => .bad
def newL (ds : List D) : MV D := fun m => match Nat.ble ds.length 16000000 with | true => .ok (.ref m.nx) (m.new (.lst ds)) | false => .bad

/-! ## operations -/
def omap {α β : Type} (f : α → Option β) : List α → Option (List β)
  | [] => some []
  | a :: r => match f a with
    | some b => (match omap f r with | some bs => some (b :: bs) | none => none)
    | none => none
def toPy (m : Mem) : Nat → D → Option PyData
  | _, .non => some .none
  | _, .bl b => some (.bool b)
  | _, .int i => some (.int i)
  | _, .str s => match PyData.strOk s with | true => some (.str s) | false => none
  | 0, _ => none
  | f + 1, .tup ds => (match omap (toPy m f) ds with | some xs => some (.tuple xs) | none => none)
  | f + 1, .ref n => (match m.lst n with
    | some ds => (match omap (toPy m f) ds with | some xs => some (.list xs) | none => none)
    | none => none)
  | _, _ => none
def deq (m : Mem) (a b : D) : Option Bool := match toPy m 9 a with
  | some x => (match toPy m 9 b with | some y => some (PyData.eqv x y) | none => none)
  | none => none

inductive BOp where | add | sub | mul | fdiv | mod | pow
inductive COp where | eq | ne | lt | le | gt | ge | is | isnot | in_ | notin
def b64 (i : Int) : Bool := decide (-18446744073709551616 < i) && decide (i < 18446744073709551616)
def mulOk (i j : Int) : Bool := b64 i || b64 j || Nat.blt (i.natAbs.log2 + j.natAbs.log2) 1000000
def sizeB (n : Nat) : Bool := Nat.ble n 16000000
def guardO {α : Type} (b : Bool) (a : α) : Option α := match b with | true => some a | false => none
def binI : BOp → Int → Int → Option Int
  | .add, i, j => some (i + j)
  | .sub, i, j => some (i - j)
  | .mul, i, j => guardO (mulOk i j) (i * j)
  | .fdiv, i, j => guardO (!decide (j = 0) && Nat.blt j.natAbs.log2 9000) (i.fdiv j)
  | .mod, i, j => guardO (!decide (j = 0)) (i.fmod j)
  | .pow, i, j => guardO (decide (0 ≤ j) && Nat.ble ((i.natAbs.log2 + 1) * j.toNat) 134217728) (i ^ j.toNat)
def binF (op : BOp) (a b : D) : MV D := fun m => match a, b with
  | .int i, .int j => opt ((binI op i j).map D.int) m
  | .str x, .str y => (match op with | .add => opt (guardO (sizeB (x.length + y.length)) (D.str (x ++ y))) m | _ => .bad)
  | .tup x, .tup y => (match op with | .add => opt (guardO (sizeB (x.length + y.length)) (D.tup (x ++ y))) m | _ => .bad)
  | .tup x, .int k => (match op with | .mul => opt (guardO (decide (2 ≤ k) && decide (k ≤ 1000) && Nat.blt 0 x.length && Nat.ble x.length 1000) (D.tup (List.replicate k.toNat x).flatten)) m | _ => .bad)
  | .ref p, .ref q => (match op with
    | .add => (match m.get p with
      | some (.lst x) => (match m.get q with | some (.lst y) => newL (x ++ y) m | _ => .bad)
      | _ => .bad)
    | _ => .bad)
  | .ref p, .int k => (match op with
    | .mul => (match m.get p with
      | some (.lst x) => (match Nat.ble (x.length * k.toNat) 16000000 && Nat.ble k.natAbs 16000000 with | true => newL (List.replicate k.toNat x).flatten m | false => .bad)
      | _ => .bad)
    | _ => .bad)
  | _, _ => .bad
def cmpI : COp → Int → Int → Option Bool
  | .eq, i, j => some (decide (i = j))
  | .ne, i, j => some (!decide (i = j))
  | .lt, i, j => some (decide (i < j))
  | .le, i, j => some (decide (i ≤ j))
  | .gt, i, j => some (decide (j < i))
  | .ge, i, j => some (decide (j ≤ i))
  | _, _, _ => none
def flatD : D → Bool
  | .non | .bl _ | .int _ | .str _ => true
  | _ => false
/-- == of flat data -/
def eqF : D → D → Bool
  | .non, .non => true
  | .bl a, .bl b => a == b
  | .bl a, .int j => (if a then 1 else 0) == j
  | .int i, .bl b => i == (if b then 1 else 0)
  | .int i, .int j => i == j
  | .str x, .str y => x == y
  | _, _ => false
def seqOf (m : Mem) : D → Option (List D)
  | .tup ds => some ds
  | .ref n => m.lst n
  | _ => none
def isNoneD : D → Option Bool
  | .non => some true
  | .bl _ | .int _ | .str _ | .tup _ | .ref _ => some false
  | _ => none
def cmpF (op : COp) (a b : D) (m : Mem) : Option Bool := match op with
  | .is => (match b with
    | .non => isNoneD a
    | .bl y => (match a with | .bl x => some (x == y) | _ => none)
    | _ => none)
  | .isnot => (match b with
    | .non => (isNoneD a).map (!·)
    | .bl y => (match a with | .bl x => some (!(x == y)) | _ => none)
    | _ => none)
  | .in_ => (match seqOf m b with
    | some ds => guardO (flatD a && ds.all flatD) (ds.any fun y => eqF y a)
    | none => none)
  | .notin => (match seqOf m b with
    | some ds => guardO (flatD a && ds.all flatD) (!ds.any fun y => eqF y a)
    | none => none)
  | .eq => (match a, b with | .int i, .int j => some (decide (i = j)) | _, _ => deq m a b)
  | .ne => (match a, b with | .int i, .int j => some (!decide (i = j)) | _, _ => (deq m a b).map (!·))
  | op => (match a, b with | .int i, .int j => cmpI op i j | _, _ => none)
def ixF (a b : D) : MV D := fun m => match b with
  | .int i => (match seqOf m a with
    | some ds => opt (atI ds i) m
    | none => .bad)
  | _ => .bad
def cutD (ds : List D) (lo hi : Option Int) : List D := (ds.drop (HT.sIx ds.length 0 lo)).take (HT.sIx ds.length ds.length hi - HT.sIx ds.length 0 lo)
def partD (no : Bool) (y : D) : Option (Option Int) := match no with
  | true => some none
  | false => (match y with | .int i => some (some i) | _ => none)
def sliceF (a : D) (lo hi : Option Int) : MV D := fun m => match a with
  | .tup ds => .ok (.tup (cutD ds lo hi)) m
  | .ref n => (match m.lst n with | some ds => newL (cutD ds lo hi) m | none => .bad)
  | _ => .bad
inductive Blt where | len | abs | max2 | min2 | int | isinst | all | any | list | tuple | sum | repr
def boolsOf : List D → Option (List Bool)
  | [] => some []
  | .bl b :: r => (match boolsOf r with | some bs => some (b :: bs) | none => none)
  | _ :: _ => none
def intsOf : List D → Option (List Int)
  | [] => some []
  | .int b :: r => (match intsOf r with | some bs => some (b :: bs) | none => none)
  | _ :: _ => none
def tyOf (m : Mem) : D → Option Ty
  | .non => some .nonety
  | .bl _ => some .bool
  | .int _ => some .int
  | .str _ => some .str
  | .tup _ => some .tuple
  | .ref n => (match m.lst n with | some _ => some .list | none => none)
  | _ => none
def isaT : Ty → Ty → Bool
  | .bool, .int => true
  | .int, .int | .bool, .bool | .str, .str | .tuple, .tuple | .list, .list | .dict, .dict | .nonety, .nonety => true
  | _, _ => false
def one {α : Type} (ds : List D) (f : D → Out α) : Out α := match ds with
  | [a] => f a
  | _ => .bad
def two {α : Type} (ds : List D) (f : D → D → Out α) : Out α := match ds with
  | [a, b] => f a b
  | _ => .bad
def onSeq {α : Type} (m : Mem) (a : D) (f : List D → Out α) : Out α := match seqOf m a with
  | some xs => f xs
  | none => .bad
def onInt {α : Type} (a : D) (f : Int → Out α) : Out α := match a with
  | .int i => f i
  | _ => .bad
/-- a list, by its items -/
def onLst {α : Type} (m : Mem) (a : D) (f : List D → Out α) : Out α := match a with
  | .ref n => (match m.lst n with | some xs => f xs | none => .bad)
  | _ => .bad
def onSome {α β : Type} (o : Option β) (f : β → Out α) : Out α := match o with
  | some x => f x
  | none => .bad
def lenF (a : D) : MV D := fun m => match a with
  | .str s => opt (guardO (sizeB s.length) (.int s.length)) m
  | a => onSeq m a fun xs => .ok (.int xs.length) m
def intF (a : D) : MV D := fun m => match a with
  | .int i => .ok (.int i) m
  | .bl b => .ok (.int (if b then 1 else 0)) m
  | _ => .bad
def isaF (a t : D) : MV D := fun m => match t with
  | .ty t => onSome (tyOf m a) fun u => .ok (.bl (isaT u t)) m
  | _ => .bad
def reprF (a : D) : MV D := fun m => onSome (toPy m 9 a) fun x => opt (guardO (x.showable && sizeB x.shown.length) (.str x.shown)) m
def bltF (b : Blt) (ds : List D) : MV D := fun m => match b with
  | .len => one ds fun a => lenF a m
  | .abs => one ds fun a => onInt a fun i => .ok (.int (if i < 0 then -i else i)) m
  | .max2 => two ds fun a b => onInt a fun i => onInt b fun j => .ok (.int (if i < j then j else i)) m
  | .min2 => two ds fun a b => onInt a fun i => onInt b fun j => .ok (.int (if j < i then j else i)) m
  | .int => one ds fun a => intF a m
  | .isinst => two ds fun a t => isaF a t m
  | .all => one ds fun a => onLst m a fun xs => onSome (boolsOf xs) fun bs => .ok (.bl (bs.all id)) m
  | .any => one ds fun a => onLst m a fun xs => onSome (boolsOf xs) fun bs => .ok (.bl (bs.any id)) m
  | .list => one ds fun a => onSeq m a fun xs => newL xs m
  | .tuple => one ds fun a => onSeq m a fun xs => .ok (.tup xs) m
  | .sum => one ds fun a => onLst m a fun xs => onSome (intsOf xs) fun is => .ok (.int is.sum) m
  | .repr => one ds fun a => reprF a m

/-! ## the language -/
inductive E where
  | var (i : Nat) | const (d : D) | no
  | nil | cons (e es : E)
  | tup (es : E) | lst (es : E)
  | bin (op : BOp) (a b : E) | neg (a : E)
  | cmp (op : COp) (a b : E) | chain (o1 o2 : COp) (a b c : E)
  | band (a b : E) | bor (a b : E) | bnot (a : E) | ite (c a b : E)
  | call (k : Nat) (es : E) | blt (b : Blt) (es : E) | callv (f : E) (es : E)
  | ix (a b : E) | slice (a l h : E)
  | rng1 (a : E) | rng2 (a b : E)
  | tnm (i : Nat) | tnil | tcons (t ts : E) | ttup (ts : E) | tsub (o i : E)
  | comp (own : List Nat) (t : E) (it : E) (c : E) (elt : E) | yes
def E.isNo : E → Bool
  | .no => true
  | _ => false
abbrev Rho := List (Option D)
def getR : Rho → Nat → Option D
  | [], _ => none
  | x :: _, 0 => x
  | _ :: r, n + 1 => getR r n
def wipeR (ρ : Rho) : List Nat → Rho
  | [] => ρ
  | v :: vs => (wipeR ρ vs).set v none
def lowR (n : Nat) : Rho → Rho
  | [] => []
  | some d :: r => (match lowD n d with | true => some d | false => none) :: lowR n r
  | none :: r => none :: lowR n r
def lowAll (n : Nat) : Rho → Bool
  | [] => true
  | some d :: r => (match lowD n d with | true => lowAll n r | false => false)
  | none :: r => lowAll n r
/-- behind a statement: what it made and nobody holds is forgotten -/
def tdS (n : Nat) (ρ : Rho) (m : Mem) : Mem := match canCut n m with
  | true => (match lowAll n ρ with | true => cutM n m | false => m)
  | false => m
def tdR (n : Nat) (m : Mem) (ρ : Rho) : Rho := match canCut n m with | true => lowR n ρ | false => ρ
def iota (a : Int) : Nat → List D
  | 0 => []
  | n + 1 => .int a :: iota (a + 1) n
/-- a list is held as read-only while f runs -/
def holdL {α : Type} (n : Nat) (f : MV α) : MV α := fun m => match m.get n with
  | some (.lst ds) => (match f (m.put n (.rol ds)) with
    | .ok a m' => .ok a (m'.put n (.lst ds))
    | .exc x m' => .exc x (m'.put n (.lst ds))
    | .bad => .bad)
  | some _ => f m
  | none => .bad
/-- what a for, a comprehension walks: the items, the list that is held -/
inductive Src where | items (ds : List D) | held (n : Nat) (ds : List D)
def setItemF (o i d : D) : MV Unit := fun m => match o, i with
  | .ref n, .int k => (match m.get n with
    | some (.lst ds) => (match ixN ds.length k with
      | some j => .ok () (m.put n (.lst (ds.set j d)))
      | none => .bad)
    | _ => .bad)
  | _, _ => .bad
section
variable (F : Nat → List D → MV D)
def compL (asg : D → MV Rho) (c : Rho → MV Bool) (elt : Rho → MV D) : List D → List D → MV (List D)
  | [], acc => fun m => .ok acc.reverse m
  | d :: r, acc => fun m => (asg d m).bind (fun ρ m1 => (c ρ m1).bind (fun b m2 => match b with
    | true => (elt ρ m2).bind fun x m3 => compL asg c elt r (x :: acc) m3
    | false => compL asg c elt r acc m2) ) 
def noX {α : Type} (o : Out α) : Out α := match o with
  | .exc _ _ => .bad
  | o => o
def truth (d : D) : MV Bool := fun m => match d with | .bl b => .ok b m | _ => .bad
def tupl (d : D) : MV (List D) := fun m => match d with | .tup ds => .ok ds m | _ => .bad
def srcOf (d : D) : MV Src := fun m => match d with
  | .tup ds => .ok (.items ds) m
  | .ref n => (match m.lst n with | some ds => .ok (.held n ds) m | none => .bad)
  | _ => .bad
def onSrc {α : Type} (s : Src) (f : List D → MV α) : MV α := match s with
  | .items ds => f ds
  | .held n ds => holdL n (f ds)
def small (i : Int) : Bool := decide (-4611686018427387904 ≤ i) && decide (i < 4611686018427387904)
def rngI (a b : Int) : MV Src := fun m => match small a && small b with
  | true => .ok (.items (iota a (b - a).toNat)) m
  | false => .bad
/-! ### meanings of the parts -/
def cmpM (op : COp) : D → D → MV D := fun d e m => opt ((cmpF op d e m).map D.bl) m
def consM (fa fb : Rho → MV D) : Rho → MV D := fun ρ m => (fa ρ m).bind fun x m1 => (fb ρ m1).bind fun y m2 => match y with | .tup ys => .ok (.tup (x :: ys)) m2 | _ => .bad
def lstM (fa : Rho → MV D) : Rho → MV D := fun ρ m => (fa ρ m).bind fun x m1 => match x with | .tup ys => newL ys m1 | _ => .bad
def bin2 (f : D → D → MV D) (fa fb : Rho → MV D) : Rho → MV D := fun ρ m => (fa ρ m).bind fun x m1 => (fb ρ m1).bind fun y m2 => f x y m2
def negM (fa : Rho → MV D) : Rho → MV D := fun ρ m => (fa ρ m).bind fun x m1 => match x with | .int i => .ok (.int (-i)) m1 | _ => .bad
def testM (fa : Rho → MV D) : Rho → MV Bool := fun ρ m => (fa ρ m).bind truth
/-- by a bool, two ways -/
def sel {α : Type} (d : D) (A B : Out α) : Out α := match d with
  | .bl true => A
  | .bl false => B
  | _ => .bad
def iteM (fc fa fb : Rho → MV D) : Rho → MV D := fun ρ m => (fc ρ m).bind fun x m1 => sel x (fa ρ m1) (fb ρ m1)
def bandM (fa fb : Rho → MV D) : Rho → MV D := fun ρ m => (fa ρ m).bind fun x m1 => sel x (fb ρ m1) (.ok (.bl false) m1)
def borM (fa fb : Rho → MV D) : Rho → MV D := fun ρ m => (fa ρ m).bind fun x m1 => sel x (.ok (.bl true) m1) (fb ρ m1)
def notM (fa : Rho → MV D) : Rho → MV D := fun ρ m => (fa ρ m).bind fun x m1 => sel x (.ok (.bl false) m1) (.ok (.bl true) m1)
def chainM (o1 o2 : COp) (fa fb fc : Rho → MV D) : Rho → MV D := fun ρ m => (fa ρ m).bind fun x m1 => (fb ρ m1).bind fun y m2 => (cmpM o1 x y m2).bind fun r m3 => sel r ((fc ρ m3).bind fun z m4 => cmpM o2 y z m4) (.ok (.bl false) m3)
def callM (k : Nat) (fa : Rho → MV D) : Rho → MV D := fun ρ m => (fa ρ m).bind fun x m1 => match x with | .tup ys => F k ys m1 | _ => .bad
def callvM (ff fa : Rho → MV D) : Rho → MV D := fun ρ m => (ff ρ m).bind fun v m1 => match v with | .fn k => callM F k fa ρ m1 | _ => .bad
def bltM (b : Blt) (fa : Rho → MV D) : Rho → MV D := fun ρ m => (fa ρ m).bind fun x m1 => match x with | .tup ys => bltF b ys m1 | _ => .bad
def partM (no : Bool) (f : Rho → MV D) : Rho → MV (Option Int) := fun ρ m => (f ρ m).bind fun y => opt (partD no y)
def sliceM (fa : Rho → MV D) (fl fh : Rho → MV (Option Int)) : Rho → MV D := fun ρ m => (fa ρ m).bind fun x m1 => (fl ρ m1).bind fun lo m2 => (fh ρ m2).bind fun hi m3 => sliceF x lo hi m3
def rng1M (fa : Rho → MV D) : Rho → MV Src := fun ρ m => (fa ρ m).bind fun x m1 => match x with | .int i => rngI 0 i m1 | _ => .bad
def rng2M (fa fb : Rho → MV D) : Rho → MV Src := fun ρ m => (fa ρ m).bind fun x m1 => (fb ρ m1).bind fun y m2 => match x, y with | .int i, .int j => rngI i j m2 | _, _ => .bad
def tnmM (i : Nat) : D → Rho → MV Rho := fun d ρ m => .ok (ρ.set i (some d)) m
def tnilM : D → Rho → MV Rho := fun d ρ m => match d with | .tup [] => .ok ρ m | _ => .bad
def tconsM (ft fs : D → Rho → MV Rho) : D → Rho → MV Rho := fun d ρ m => match d with | .tup (x :: r) => (ft x ρ m).bind fun ρ1 m1 => fs (.tup r) ρ1 m1 | _ => .bad
def tsubM (fo fi : Rho → MV D) : D → Rho → MV Rho := fun d ρ m => (fo ρ m).bind fun x m1 => (fi ρ m1).bind fun y m2 => (setItemF x y d m2).bind fun _ m3 => .ok ρ m3
def compM (own : List Nat) (ft : D → Rho → MV Rho) (fs : Rho → MV Src) (fc fe : Rho → MV D) : Rho → MV D := fun ρ m => (fs ρ m).bind fun s m1 =>
  (noX (onSrc s (fun ds => compL (fun d m => ft d (wipeR ρ own) m) (testM fc) fe ds []) m1)).bind newL
/-- the meanings of a part: as a value; as what is walked; as a target -/
structure Mean where
  e : Rho → MV D
  s : Rho → MV Src
  t : D → Rho → MV Rho
def asV (f : Rho → MV D) : Mean := ⟨f, fun ρ m => (f ρ m).bind srcOf, fun _ _ _ => .bad⟩
def asS (f : Rho → MV Src) : Mean := ⟨fun _ _ => .bad, f, fun _ _ _ => .bad⟩
def asT (f : D → Rho → MV Rho) : Mean := ⟨fun _ _ => .bad, fun _ _ => .bad, f⟩
def den : E → Mean
  | .var i => asV fun ρ => opt (getR ρ i)
  | .const d => asV fun _ => okk d
  | .no => asV fun _ => okk .non
  | .yes => asV fun _ => okk (.bl true)
  | .nil => asV fun _ => okk (.tup [])
  | .cons a b => asV (consM (den a).e (den b).e)
  | .tup a => asV (den a).e
  | .lst a => asV (lstM (den a).e)
  | .bin op a b => asV (bin2 (binF op) (den a).e (den b).e)
  | .neg a => asV (negM (den a).e)
  | .cmp op a b => asV (bin2 (cmpM op) (den a).e (den b).e)
  | .chain o1 o2 a b c => asV (chainM o1 o2 (den a).e (den b).e (den c).e)
  | .band a b => asV (bandM (den a).e (den b).e)
  | .bor a b => asV (borM (den a).e (den b).e)
  | .bnot a => asV (notM (den a).e)
  | .ite c a b => asV (iteM (den c).e (den a).e (den b).e)
  | .call k a => asV (callM F k (den a).e)
  | .callv f a => asV (callvM F (den f).e (den a).e)
  | .blt b a => asV (bltM b (den a).e)
  | .ix a b => asV (bin2 ixF (den a).e (den b).e)
  | .slice a l h => asV (sliceM (den a).e (partM l.isNo (den l).e) (partM h.isNo (den h).e))
  | .rng1 a => asS (rng1M (den a).e)
  | .rng2 a b => asS (rng2M (den a).e (den b).e)
  | .tnm i => asT (tnmM i)
  | .tnil => asT tnilM
  | .tcons t ts => asT (tconsM (den t).t (den ts).t)
  | .ttup t => asT (den t).t
  | .tsub o i => asT (tsubM (den o).e (den i).e)
  | .comp own t it c elt => asV (compM own (den t).t (den it).s (den c).e (den elt).e)

inductive S where
  | skip | seq (a b : S) | asg (t e : E) | par (i j : Nat) (es : E)
  | aug (i : Nat) (op : BOp) (e : E) | augs (o i : E) (op : BOp) (e : E)
  | expr (e : E) | append (o e : E) | ret (e : E) | iff (c : E) (a b : S) | whil (c : E) (b : S) | forr (t it : E) (b : S) | brk | cnt
  | raise (k : Nat) (es : E)
inductive OutS where
  | nx (ρ : Rho) (m : Mem) | brk (ρ : Rho) (m : Mem) | cnt (ρ : Rho) (m : Mem) | ret (d : D) (m : Mem) | exc (x : Ex) (ρ : Rho) (m : Mem) | bad
def Out.st {α : Type} (o : Out α) (ρ : Rho) (f : α → Mem → OutS) : OutS := match o with
  | .ok a m => f a m
  | .exc x m => .exc x ρ m
  | .bad => .bad
def whileL (c : Rho → MV Bool) (b : Rho → Mem → OutS) : Nat → Rho → Mem → OutS
  | 0, _, _ => .bad
  | n + 1, ρ, m => (c ρ m).st ρ fun t m1 => match t with
    | false => .nx ρ m1
    | true => (match b ρ m1 with
      | .nx ρ' m' => whileL c b n (tdR m.nx m' ρ') (tdM m.nx m')
      | .cnt ρ' m' => whileL c b n (tdR m.nx m' ρ') (tdM m.nx m')
      | .brk ρ' m' => .nx ρ' m'
      | .ret d m' => .ret d m'
      | .exc x ρ' m' => .exc x ρ' m'
      | .bad => .bad)
def forL (a : D → Rho → MV Rho) (b : Rho → Mem → OutS) : List D → Rho → Mem → OutS
  | [], ρ, m => .nx ρ m
  | d :: r, ρ, m => (a d ρ m).st ρ fun ρ1 m1 => (match b ρ1 m1 with
      | .nx ρ' m' => forL a b r (tdR m.nx m' ρ') (tdM m.nx m')
      | .cnt ρ' m' => forL a b r (tdR m.nx m' ρ') (tdM m.nx m')
      | .brk ρ' m' => .nx ρ' m'
      | .ret d m' => .ret d m'
      | .exc x ρ' m' => .exc x ρ' m'
      | .bad => .bad)
def holdS (n : Nat) (f : Mem → OutS) : Mem → OutS := fun m => match m.get n with
  | some (.lst ds) => (match f (m.put n (.rol ds)) with
    | .nx ρ m' => .nx ρ (m'.put n (.lst ds))
    | .brk ρ m' => .brk ρ (m'.put n (.lst ds))
    | .cnt ρ m' => .cnt ρ (m'.put n (.lst ds))
    | .ret d m' => .ret d (m'.put n (.lst ds))
    | .exc x ρ m' => .exc x ρ (m'.put n (.lst ds))
    | .bad => .bad)
  | some _ => f m
  | none => .bad
def onSrcS (s : Src) (f : List D → Mem → OutS) : Mem → OutS := match s with
  | .items ds => f ds
  | .held n ds => holdS n (f ds)
/-- the most turns of a while -/
def wMost : Nat := 1000000000000
def appF (o d : D) : MV Unit := fun m => match o with
  | .ref n => (match m.get n with
    | some (.lst ds) => (match sizeB (ds.length + 1) with | true => .ok () (m.put n (.lst (ds ++ [d]))) | false => .bad)
    | _ => .bad)
  | _ => .bad
def denS : S → Rho → Mem → OutS
  | .skip, ρ, m => .nx ρ m
  | .seq a b, ρ, m => (match denS a ρ m with | .nx ρ' m' => denS b ρ' (tdS m.nx ρ' m') | o => o)
  | .asg t e, ρ, m => ((den F e).e ρ m).st ρ fun d m1 => (noX ((den F t).t d ρ m1)).st ρ fun ρ' m' => .nx ρ' m'
  | .par i j es, ρ, m => ((den F es).e ρ m).st ρ fun d m1 => (match d with | .tup [x, y] => .nx ((ρ.set i (some x)).set j (some y)) m1 | _ => .bad)
  | .aug i op e, ρ, m => (match getR ρ i with
    | some x => ((den F e).e ρ m).st ρ fun y m1 => (match x, y with | .int a, .int b => (opt (binI op a b) m1).st ρ fun r m2 => .nx (ρ.set i (some (.int r))) m2 | _, _ => .bad)
    | none => .bad)
  | .augs o i op e, ρ, m => ((den F o).e ρ m).st ρ fun x m1 => ((den F i).e ρ m1).st ρ fun y m2 => (ixF x y m2).st ρ fun v m3 => ((den F e).e ρ m3).st ρ fun w m4 => (match v, w with
    | .int a, .int b => (opt (binI op a b) m4).st ρ fun r m5 => (setItemF x y (.int r) m5).st ρ fun _ m6 => .nx ρ m6
    | _, _ => .bad)
  | .expr e, ρ, m => ((den F e).e ρ m).st ρ fun _ m1 => .nx ρ m1
  | .append o e, ρ, m => ((den F o).e ρ m).st ρ fun x m1 => (onLst m1 x fun _ => .ok () m1).st ρ fun _ m1 => ((den F e).e ρ m1).st ρ fun d m2 => (appF x d m2).st ρ fun _ m3 => .nx ρ m3
  | .ret e, ρ, m => ((den F e).e ρ m).st ρ fun d m1 => .ret d m1
  | .iff c a b, ρ, m => (testM (den F c).e ρ m).st ρ fun t m1 => (match t with | true => denS a ρ m1 | false => denS b ρ m1)
  | .whil c b, ρ, m => whileL (testM (den F c).e) (fun ρ m => denS b ρ m) wMost ρ m
  | .forr t it b, ρ, m => ((den F it).s ρ m).st ρ fun s m1 => onSrcS s (fun ds => forL (fun d ρ m => noX ((den F t).t d ρ m)) (fun ρ m => denS b ρ m) ds ρ) m1
  | .brk, ρ, m => .brk ρ m
  | .cnt, ρ, m => .cnt ρ m
  | .raise k es, ρ, m => ((den F es).e ρ m).st ρ fun d m1 => (match d with | .tup ds => .exc ⟨k, ds⟩ ρ m1 | _ => .bad)
end
/-! ## functions -/
structure Fn where
  np : Nat
  nl : Nat
  body : S
def finM (n : Nat) (d : D) (m : Mem) : Out D := match canCut n m with
  | true => (match lowD n d with
    | true => .ok d (cutM n m)
    | false => (match d with
      | .ref r => (match m.get r with
        | some (.lst ds) => (match lowDs n ds with
          | true => .ok (.ref n) ⟨n + 1, (n, .lst ds) :: gcL n m.ob⟩
          | false => .ok d m)
        | _ => .ok d m)
      | _ => .ok d m))
  | false => .ok d m
def fin (n : Nat) : OutS → Out D
  | .ret d m => finM n d m
  | .nx _ m => .ok .non (tdM n m)
  | .exc x _ m => (match lowDs n x.arg with | true => .exc x (tdM n m) | false => .exc x m)
  | _ => .bad
def startR (f : Fn) (ds : List D) : Rho := ds.map some ++ List.replicate (f.nl - ds.length) none
def run (T : Nat → Option Fn) : Nat → Nat → List D → MV D
  | 0, _, _, _ => .bad
  | n + 1, k, ds, m => match T k with
    | some f => (match Nat.beq ds.length f.np && Nat.ble f.np f.nl with | true => fin m.nx (denS (run T n) f.body (startR f ds) m) | false => .bad)
    | none => .bad
end Ev

set_option Elab.async false
set_option linter.all false
set_option maxRecDepth 100000
set_option maxHeartbeats 4000000
namespace Ev
open PySem PySem.Spec PyProof.Rows L2

/-! ## how data lies in the heap -/
structure Sta where
  K : PySem.W.Frag
  fa : Nat → Addr
  ca : Nat → Addr
  cf : Nat → Str
section
variable (S : Sta)
mutual
inductive RepV (ι : Nat → Addr) (nx : Nat) (H : Hp) : D → V → Prop
  | non : RepV ι nx H .non .non
  | bl (b : Bool) : RepV ι nx H (.bl b) (.bl b)
  | int (i : Int) : RepV ι nx H (.int i) (.int i)
  | str (s : Str) : RepV ι nx H (.str s) (.str s)
  | ref {n : Nat} (h : n < nx) : RepV ι nx H (.ref n) (.ref (ι n))
  | fn (k : Nat) : RepV ι nx H (.fn k) (.ref (S.fa k))
  | ty (t : Ty) : RepV ι nx H (.ty t) (.ty t.nm)
  | tup {a : Addr} {vs : List V} {ds : List D} (h : SqT S.K H a vs) (r : RepVs ι nx H ds vs) : RepV ι nx H (.tup ds) (.ref a)
inductive RepVs (ι : Nat → Addr) (nx : Nat) (H : Hp) : List D → List V → Prop
  | nil : RepVs ι nx H [] []
  | cons {d : D} {v : V} {ds : List D} {vs : List V} (h : RepV ι nx H d v) (r : RepVs ι nx H ds vs) : RepVs ι nx H (d :: ds) (v :: vs)
end
def KL (K : PySem.W.Frag) (a : Addr) (xs : List V) : Prop :=
  ∃ (o : Obj) (its : Array Value) (n : Nat), K.lookup a = some o ∧ o.cls = .type "list" ∧ o.dict = none ∧ o.data = .seq its n ∧ its.size ≤ sizeLine ∧ Vals xs its.toList
def RepO (ι : Nat → Addr) (nx : Nat) (H : Hp) (a : Addr) : O → Prop
  | .lst ds => ∃ vs, H a = some (.lst vs) ∧ RepVs S ι nx H ds vs
  | .rol ds => ∃ vs, Rd H a (.lst vs) ∧ RepVs S ι nx H ds vs
  | .kol ds => ∃ vs, KL S.K a vs ∧ RepVs S ι nx H ds vs
  | .scr ns => KL S.K a (ns.map V.int) ∨ ∃ o, H a = some (.frz o (.lst (ns.map V.int)))
def O.inH : O → Bool
  | .kol _ => false
  | .scr _ => false
  | _ => true
structure RepM (ι : Nat → Addr) (H : Hp) (m : Mem) : Prop where
  lt : ∀ n o, m.get n = some o → n < m.nx
  ob : ∀ n o, m.get n = some o → RepO S ι m.nx H (ι n) o
  inj : ∀ n n' o o', m.get n = some o → m.get n' = some o' → o.inH = true → o'.inH = true → ι n = ι n' → n = n'
def Mem.rw (m : Mem) (n : Nat) : Prop := ∃ ds, m.get n = some (.lst ds)
structure Step (ι : Nat → Addr) (m : Mem) (H : Hp) (ι' : Nat → Addr) (m' : Mem) (H' : Hp) : Prop where
  nx : m.nx ≤ m'.nx
  ext : ∀ n, n < m.nx → ι' n = ι n
  new : ∀ n o, m.nx ≤ n → m'.get n = some o → o.inH = true → H (ι' n) = none
  sub : ∀ n o, n < m.nx → m'.get n = some o → o.inH = true → ∃ o', m.get n = some o' ∧ o'.inH = true
  subw : ∀ n, n < m.nx → m'.rw n → m.rw n
  keep : ∀ b o, H b = some o → (∀ n, m.rw n → ι n ≠ b) → H' b = some o
  there : ∀ b, H b ≠ none → H' b ≠ none
  mem : RepM S ι' H' m'
variable {S} {ι ι' ι1 ι2 : Nat → Addr} {nx nx' : Nat} {H H' H1 H2 : Hp} {m m' m1 m2 : Mem}
theorem sqT_up {K : PySem.W.Frag} {a : Addr} {vs : List V} (h : SqT K H a vs) (k : ∀ u, H a = some u → (∀ xs, u ≠ .lst xs) → H' a = some u) : SqT K H' a vs := by
  rcases h with (h | ⟨o, h⟩) | h
  · exact .inl (.inl (k _ h fun _ z => by cases z))
  · exact .inl (.inr ⟨o, k _ h fun _ z => by cases z⟩)
  · exact .inr h
mutual
theorem RepV.up (hT : ∀ a u, H a = some u → (∀ xs, u ≠ .lst xs) → H' a = some u) (hι : ∀ n, n < nx → ι' n = ι n) (hn : nx ≤ nx') : ∀ {d v}, RepV S ι nx H d v → RepV S ι' nx' H' d v
  | _, _, .non => .non
  | _, _, .bl b => .bl b
  | _, _, .int b => .int b
  | _, _, .str b => .str b
  | _, _, .ref h => by rw [← hι _ h]; exact .ref (Nat.lt_of_lt_of_le h hn)
  | _, _, .fn k => .fn k
  | _, _, .ty k => .ty k
  | _, _, .tup h r => .tup (sqT_up h (hT _)) (RepVs.up hT hι hn r)
theorem RepVs.up (hT : ∀ a u, H a = some u → (∀ xs, u ≠ .lst xs) → H' a = some u) (hι : ∀ n, n < nx → ι' n = ι n) (hn : nx ≤ nx') : ∀ {ds vs}, RepVs S ι nx H ds vs → RepVs S ι' nx' H' ds vs
  | _, _, .nil => .nil
  | _, _, .cons h r => .cons (h.up hT hι hn) (r.up hT hι hn)
end
theorem RepM.notl (M : RepM S ι H m) {a : Addr} {u : HO} (h : H a = some u) (hu : ∀ xs, u ≠ .lst xs) : ∀ n, m.rw n → ι n ≠ a := fun n ⟨ds, e⟩ z => by
  obtain ⟨vs, h1, _⟩ := M.ob n _ e
  rw [z, h] at h1
  exact hu vs (Option.some.inj h1)
theorem Step.tups (T : Step S ι m H ι' m' H') (M : RepM S ι H m) : ∀ a u, H a = some u → (∀ xs, u ≠ .lst xs) → H' a = some u := fun a u h hu => T.keep a u h (M.notl h hu)
theorem Step.repV (T : Step S ι m H ι' m' H') (M : RepM S ι H m) {d v} (r : RepV S ι m.nx H d v) : RepV S ι' m'.nx H' d v := r.up (T.tups M) T.ext T.nx
theorem Step.repVs (T : Step S ι m H ι' m' H') (M : RepM S ι H m) {d v} (r : RepVs S ι m.nx H d v) : RepVs S ι' m'.nx H' d v := r.up (T.tups M) T.ext T.nx
theorem Step.refl (M : RepM S ι H m) : Step S ι m H ι m H :=
  ⟨Nat.le_refl _, fun _ _ => rfl, fun n o h e _ => absurd (M.lt n o e) (Nat.not_lt.mpr h), fun n o _ e i => ⟨o, e, i⟩, fun _ _ h => h, fun _ _ h _ => h, fun _ h => h, M⟩
theorem Step.trans (A : Step S ι m H ι1 m1 H1) (B : Step S ι1 m1 H1 ι2 m2 H2) : Step S ι m H ι2 m2 H2 where
  nx := Nat.le_trans A.nx B.nx
  ext := fun n h => (B.ext n (Nat.lt_of_lt_of_le h A.nx)).trans (A.ext n h)
  new := fun n o h e i => by
    by_cases h1 : n < m1.nx
    · obtain ⟨o', e', i'⟩ := B.sub n o h1 e i
      rw [B.ext n h1]
      exact A.new n o' h e' i'
    · have z := B.new n o (Nat.le_of_not_lt h1) e i
      cases q : H (ι2 n) with
      | none => rfl
      | some u => exact absurd z (A.there _ (by rw [q]; simp))
  sub := fun n o h e i => by
    obtain ⟨o', e', i'⟩ := B.sub n o (Nat.lt_of_lt_of_le h A.nx) e i
    exact A.sub n o' h e' i'
  subw := fun n h w => A.subw n h (B.subw n (Nat.lt_of_lt_of_le h A.nx) w)
  keep := fun b o h w => B.keep b o (A.keep b o h w) fun n hw z => by
    obtain ⟨ds, e⟩ := hw
    by_cases hn : n < m.nx
    · exact w n (A.subw n hn ⟨ds, e⟩) (by rw [← A.ext n hn]; exact z)
    · have q := A.new n _ (Nat.le_of_not_lt hn) e rfl
      rw [z, h] at q
      cases q
  there := fun b h => B.there b (A.there b h)
  mem := B.mem

/-! ## slots -/
structure RepS (S : Sta) (ι : Nat → Addr) (nx : Nat) (H : Hp) (ρ : Rho) (σ : L2.St) : Prop where
  len : ρ.length = σ.length
  at_ : ∀ i d, getR ρ i = some d → ∃ v, σ[i]? = some (some v) ∧ RepV S ι nx H d v
theorem getR_set : ∀ {ρ : Rho} {i j : Nat} {d e : D}, getR (ρ.set i (some e)) j = some d → (j = i ∧ i < ρ.length ∧ d = e) ∨ (j ≠ i ∧ getR ρ j = some d)
  | [], i, j, d, e, h => by simp [getR] at h
  | x :: r, 0, 0, d, e, h => by
    have h : some e = some d := h
    exact .inl ⟨rfl, by simp, (Option.some.inj h).symm⟩
  | x :: r, 0, j + 1, d, e, h => .inr ⟨by simp, h⟩
  | x :: r, i + 1, 0, d, e, h => .inr ⟨by simp, h⟩
  | x :: r, i + 1, j + 1, d, e, h => by
    rcases getR_set (ρ := r) (i := i) (j := j) h with ⟨a, b, c⟩ | ⟨a, b⟩
    · exact .inl ⟨by omega, by simp; omega, c⟩
    · exact .inr ⟨by omega, b⟩
theorem RepS.set (r : RepS S ι nx H ρ σ) {d : D} {v : V} (h : RepV S ι nx H d v) (i : Nat) : RepS S ι nx H (ρ.set i (some d)) (σ.set i (some v)) where
  len := by rw [List.length_set, List.length_set]; exact r.len
  at_ := fun j e q => by
    rcases getR_set q with ⟨rfl, hl, rfl⟩ | ⟨hn, q⟩
    · exact ⟨v, List.getElem?_set_self (by rw [← r.len]; exact hl), h⟩
    · obtain ⟨u, a, b⟩ := r.at_ j e q
      exact ⟨u, by rw [List.getElem?_set_ne (Ne.symm hn)]; exact a, b⟩
theorem Step.repS (T : Step S ι m H ι' m' H') (M : RepM S ι H m) {ρ σ} (r : RepS S ι m.nx H ρ σ) : RepS S ι' m'.nx H' ρ σ :=
  ⟨r.len, fun i d h => let ⟨v, a, b⟩ := r.at_ i d h; ⟨v, a, T.repV M b⟩⟩

/-! ## what is wanted of an outcome -/
def RepX (S : Sta) (ι : Nat → Addr) (nx : Nat) (H : Hp) (x : Ex) (cls : Value) (dd : Option Addr) : Prop :=
  cls = .ref (S.ca x.cls) ∧ (match x.arg with
    | [] => True
    | d :: _ => ∃ a fs v, dd = some a ∧ H a = some (.xd fs) ∧ fs.lookup (S.cf x.cls) = some v ∧ RepV S ι nx H d v)
def PostG {α : Type} (S : Sta) (ι : Nat → Addr) (m : Mem) (H : Hp) (E : XK) (o : Out α) (Q : α → (Nat → Addr) → Mem → Hp → Prop) : Prop := match o with
  | .ok a m' => ∀ ι' H', Step S ι m H ι' m' H' → Q a ι' m' H'
  | .exc x m' => ∀ ι' H' cls dd, Step S ι m H ι' m' H' → RepX S ι' m'.nx H' x cls dd → E cls dd H'
  | .bad => False
section
variable {α β : Type} {E : XK} {o : Out α} {Q Q' : α → (Nat → Addr) → Mem → Hp → Prop}
theorem PostG.step (T : Step S ι m H ι1 m1 H1) (p : PostG S ι m H E o Q) : PostG S ι1 m1 H1 E o Q := by
  cases o with
  | ok a m' => exact fun ι' H' z => p ι' H' (T.trans z)
  | exc x m' => exact fun ι' H' cls dd z => p ι' H' cls dd (T.trans z)
  | bad => exact p
theorem PostG.imp (p : PostG S ι m H E o Q) (h : ∀ a ι' m' H', Step S ι m H ι' m' H' → Q a ι' m' H' → Q' a ι' m' H') : PostG S ι m H E o Q' := by
  cases o with
  | ok a m' => exact fun ι' H' z => h _ _ _ _ z (p ι' H' z)
  | exc x m' => exact p
  | bad => exact p
theorem PostG.bind {f : α → MV β} {Q : β → (Nat → Addr) → Mem → Hp → Prop} (p : PostG S ι m H E (o.bind f) Q) : PostG S ι m H E o fun a ι1 m1 H1 => RepM S ι1 H1 m1 ∧ Step S ι m H ι1 m1 H1 ∧ PostG S ι1 m1 H1 E (f a m1) Q := by
  cases o with
  | ok a m' => exact fun ι' H' z => ⟨z.mem, z, PostG.step z p⟩
  | exc x m' => exact p
  | bad => exact p
theorem PostG.ok (M : RepM S ι H m) {a : α} (p : PostG S ι m H E (.ok a m) Q) : Q a ι m H := p ι H (Step.refl M)
end

/-! ## readings by meanings -/
def evE (S : Sta) (W : WX) (f : Rho → MV D) : TE := fun σ H Q => ∃ ι ρ m, RepS S ι m.nx H ρ σ ∧ RepM S ι H m ∧
  PostG S ι m H (fun c d H' => W c d σ H') (f ρ m) fun d ι' m' H' => ∀ v, RepV S ι' m'.nx H' d v → Q v H'
def evB (S : Sta) (W : WX) (f : Rho → MV Bool) : TT := fun σ H Q => ∃ ι ρ m, RepS S ι m.nx H ρ σ ∧ RepM S ι H m ∧
  PostG S ι m H (fun c d H' => W c d σ H') (f ρ m) fun b _ _ H' => Q b H'
def evA (S : Sta) (W : WX) (f : Rho → MV D) : TA := fun σ H Q => ∃ ι ρ m, RepS S ι m.nx H ρ σ ∧ RepM S ι H m ∧
  PostG S ι m H (fun c d H' => W c d σ H') (f ρ m) fun d ι' m' H' => ∃ ds, d = .tup ds ∧ ∀ vs, RepVs S ι' m'.nx H' ds vs → Q vs H'
theorem peI {X : Cx} {e : Expr} {t t' : TE} (h : PE X e t) (k : ∀ σ H Q, t' σ H Q → t σ H Q) : PE X e t' := ⟨fun pins s σ H Q I w => h.run pins s σ H Q I (k σ H Q w)⟩
theorem ptI {X : Cx} {e : Expr} {t t' : TT} (h : PT X e t) (k : ∀ σ H Q, t' σ H Q → t σ H Q) : PT X e t' := ⟨fun pins s σ H Q I w => h.run pins s σ H Q I (k σ H Q w)⟩
theorem paI {X : Cx} {e : List Expr} {t t' : TA} (h : PA X e t) (k : ∀ σ H Q, t' σ H Q → t σ H Q) : PA X e t' := ⟨fun p pins s σ H Q I w => h.run p pins s σ H Q I (k σ H Q w)⟩
/-- the tool: the reading of a part, then the rest -/
theorem evE_then {W : WX} {f : Rho → MV D} {β : Type} {g : D → MV β} {ρ : Rho} {σ : L2.St} {Q : β → (Nat → Addr) → Mem → Hp → Prop} {R : VK} (rs : RepS S ι m.nx H ρ σ) (M : RepM S ι H m)
    (p : PostG S ι m H (fun c d H' => W c d σ H') ((f ρ m).bind g) Q)
    (k : ∀ d v ι1 m1 H1, RepS S ι1 m1.nx H1 ρ σ → RepM S ι1 H1 m1 → Step S ι m H ι1 m1 H1 → RepV S ι1 m1.nx H1 d v → PostG S ι1 m1 H1 (fun c d H' => W c d σ H') (g d m1) Q → R v H1) : evE S W f σ H R :=
  ⟨ι, ρ, m, rs, M, p.bind.imp fun d ι1 m1 H1 z ⟨M1, _, q⟩ v rv => k d v ι1 m1 H1 (z.repS M rs) M1 z rv q⟩
end
end Ev

set_option Elab.async false
set_option linter.all false
set_option maxRecDepth 100000
set_option maxHeartbeats 4000000
namespace Ev
open PySem PySem.Spec PyProof.Rows L2

/-! ## functions that keep a promise, with no repr under way -/
structure FnG (P : Program) (w : World) (K : PySem.W.Frag) (mg : Str → Option Value) (base : Heap) (k : Nat) (f : Addr) (fd : FuncData) (ps : List Str) (sp : Sp) : Prop where
  run : ∀ (A : Around) (outer : List PySem.Env) (s : Shared) (H : Hp) (args : Args) (us : List Value) (vs : List V) (Q : VK) (E : XK),
    Room k A → A.guards = some [] → Env0 P w K mg base A outer s H → BindsTo s fd args (ps.zip us) → Vals vs us → vs.length = ps.length → sp vs H Q E →
    codeAny (model P w) A (.call (.ref f) args) (CR (L2.CX P w) outer P w H s Q E) s
/-- what the evaluator says of a def -/
def spF (S : Sta) (F : Nat → List D → MV D) (k : Nat) : Sp := fun vs H Q E => ∃ ι m ds, RepVs S ι m.nx H ds vs ∧ RepM S ι H m ∧
  PostG S ι m H E (F k ds m) fun d ι' m' H' => ∀ v, RepV S ι' m'.nx H' d v → Q v H'
structure Glo where
  g : Str → Option D
  b : Str → Bool
/-- a def that may be called here -/
structure Callee (X : Cx) (S : Sta) (F : Nat → List D → MV D) (n k : Nat) : Prop where
  ex : ∃ fd ps, Binds X.K fd ps [] ∧ (∀ ds m, F k ds m ≠ .bad → ds.length = ps.length) ∧ FnG X.prog X.w X.K X.mg X.base n (S.fa k) fd ps (spF S F k)
structure GC (S : Sta) (G : Glo) (F : Nat → List D → MV D) (n : Nat) (X : Cx) (W : WX) : Prop where
  nd : X.N.Nodup
  calm : X.calm = true
  room : Room n X.A
  guard : X.A.guards = some []
  hK : X.K = S.K
  tk : Takes X W
  gl : ∀ x d, G.g x = some d → ∃ u v, X.mg x = some u ∧ RelV v u ∧ ∀ ι nx H, RepV S ι nx H d v
  bl : ∀ x, G.b x = true → X.mg x = none
  kp : ∀ k, PySem.W.keepIn X.K (.ref (S.fa k)) = true
  fns : ∀ k ds m, F k ds m ≠ .bad → Callee X S F n k
section
variable {S : Sta} {G : Glo} {F : Nat → List D → MV D} {n : Nat} {X : Cx} {W : WX} {pins : List (Addr × Obj)} {σ : L2.St} {H : Hp} {s : Shared} {Q : VK}
theorem run_fnG {f : Addr} {fd : FuncData} {ps : List Str} {sp : Sp} {us : List Value} {vs : List V} (g : GC S G F n X W) (FF : FnG X.prog X.w X.K X.mg X.base n f fd ps sp) (hb : Binds X.K fd ps []) (I : Inv X pins σ H s) (r : Vals vs us) (hl : vs.length = ps.length)
    (h : sp vs H Q fun c d H' => W c d σ H') : wpAny (model X.prog X.w) X.A (call (.ref f) us) (EP X pins σ Q) X.xe s := by
  have b := hb s us I.kIn (by rw [List.append_nil, ← r.length]; exact hl)
  rw [List.append_nil] at b
  refine wpAny_call (codeAny_mono (FF.run X.A X.stack s H ⟨us, []⟩ us vs Q _ g.room g.guard I.env0 b r hl h) fun o s' hq => ?_)
  cases o with
  | error e => exact g.tk e s' (XE.of_call I (fun _ _ _ z => z) hq)
  | ok fl => cases fl with
    | ret u => exact I.after hq
    | _ => exact False.elim hq
end

/-! ## lists of parts -/
def plainX : Expr → Bool
  | .Starred .. => false
  | _ => true
theorem star1 {e : Expr} (h : plainX e = true) (es : List Expr) (env : PySem.Env) : starEach (e :: es) env = (false, eval e env) :: starEach es env := by
  cases e <;> first | rfl | (exact absurd h (by decide)) | cases h
theorem star_any : ∀ {es : List Expr} {pos : Pos} {env : PySem.Env}, es.all plainX = true → (backTo pos (starEach es env)).any (·.1) = false
  | [], _, _, _ => rfl
  | e :: es, pos, env, h => by
    rw [List.all_cons, Bool.and_eq_true] at h
    rw [star1 h.1]
    show ((false : Bool) || (backTo pos (starEach es env)).any (·.1)) = false
    rw [star_any h.2] <;> rfl

/-! ## the store under the operations -/
theorem nbf {a b : Nat} (h : a ≠ b) : Nat.beq a b = false := by
  cases e : Nat.beq a b with
  | false => rfl
  | true => exact absurd (Nat.eq_of_beq_eq_true e) h
theorem look_new {m : Mem} {o : O} {n : Nat} : (m.new o).get n = if n = m.nx then some o else m.get n := by
  show (match Nat.beq n m.nx with | true => some o | false => look n m.ob) = _
  by_cases h : n = m.nx
  · rw [if_pos h, h, Nat.beq_refl]
  · rw [if_neg h, nbf h] <;> rfl
theorem look_repl {n k : Nat} {o : O} : ∀ {l : List (Nat × O)}, look k (repl n o l) = if k = n then (look n l).map (fun _ => o) else look k l
  | [] => by unfold repl look; split <;> rfl
  | (j, u) :: r => by
    have ih := look_repl (n := n) (k := k) (o := o) (l := r)
    unfold repl
    by_cases h : n = j
    · rw [h, Nat.beq_refl]
      show (match Nat.beq k j with | true => some o | false => look k r) = _
      by_cases hk : k = j
      · rw [if_pos hk, hk, Nat.beq_refl]
        show some o = (match Nat.beq j j with | true => some u | false => look j r).map _
        rw [Nat.beq_refl] <;> rfl
      · rw [if_neg hk, nbf hk]
        show look k r = (match Nat.beq k j with | true => some u | false => look k r)
        rw [nbf hk]
    · rw [nbf h]
      show (match Nat.beq k j with | true => some u | false => look k (repl n o r)) = _
      by_cases hk : k = j
      · have : ¬ k = n := fun e => h (e.symm.trans hk)
        rw [if_neg this, hk, Nat.beq_refl]
        show some u = (match Nat.beq j j with | true => some u | false => look j r)
        rw [Nat.beq_refl]
      · rw [nbf hk]
        show look k (repl n o r) = _
        rw [ih]
        by_cases hn : k = n
        · rw [if_pos hn, if_pos hn]
          show _ = (match Nat.beq n j with | true => some u | false => look n r).map _
          rw [nbf h]
        · rw [if_neg hn, if_neg hn]
          show _ = (match Nat.beq k j with | true => some u | false => look k r)
          rw [nbf hk]
theorem get_put {m : Mem} {n k : Nat} {o : O} : (m.put n o).get k = if k = n then (m.get n).map (fun _ => o) else m.get k := look_repl
theorem get_put_same {m : Mem} {n : Nat} {o u : O} (h : m.get n = some u) : (m.put n o).get n = some o := by rw [get_put, if_pos rfl, h] <;> rfl
theorem get_put_ne {m : Mem} {n k : Nat} {o : O} (h : k ≠ n) : (m.put n o).get k = m.get k := by rw [get_put, if_neg h]
section
variable {S : Sta} {ι : Nat → Addr} {m : Mem} {H : Hp}
theorem RepO.hin {nx : Nat} {a : Addr} {o : O} (r : RepO S ι nx H a o) (i : o.inH = true) : H a ≠ none := by
  cases o with
  | lst ds => obtain ⟨vs, h, _⟩ := r; rw [h]; simp
  | rol ds =>
    obtain ⟨vs, h, _⟩ := r
    rcases h with h | ⟨_, h⟩ <;> (rw [h]; simp)
  | kol ds => cases i
  | scr ns => cases i
theorem RepO.up {ι' : Nat → Addr} {nx nx' : Nat} {H' : Hp} {a : Addr} {o : O} (r : RepO S ι nx H a o) (hT : ∀ a u, H a = some u → (∀ xs, u ≠ .lst xs) → H' a = some u) (hι : ∀ n, n < nx → ι' n = ι n) (hn : nx ≤ nx') (ha : o.inH = true → H' a = H a) : RepO S ι' nx' H' a o := by
  cases o with
  | lst ds => obtain ⟨vs, h, q⟩ := r; exact ⟨vs, (ha rfl).trans h, q.up hT hι hn⟩
  | rol ds =>
    obtain ⟨vs, h, q⟩ := r
    refine ⟨vs, ?_, q.up hT hι hn⟩
    rcases h with h | ⟨o, h⟩
    · exact .inl ((ha rfl).trans h)
    · exact .inr ⟨o, (ha rfl).trans h⟩
  | kol ds => obtain ⟨vs, h, q⟩ := r; exact ⟨vs, h, q.up hT hι hn⟩
  | scr ns =>
    rcases r with r | ⟨o, r⟩
    · exact .inl r
    · exact .inr ⟨o, hT _ _ r fun _ z => by cases z⟩
/-- a new object that is not of the store -/
theorem Step.laid (M : RepM S ι H m) {p : Addr} {u : HO} (hp : H p = none) : Step S ι m H ι m (upd H p u) where
  nx := Nat.le_refl _
  ext := fun _ _ => rfl
  new := fun n o h e _ => absurd (M.lt n o e) (Nat.not_lt.mpr h)
  sub := fun n o _ e i => ⟨o, e, i⟩
  subw := fun _ _ h => h
  keep := fun b o h _ => by rw [upd_ne (ne_of_none h hp)]; exact h
  there := fun b h => by
    by_cases hb : b = p
    · rw [hb, upd_same]; simp
    · rw [upd_ne hb]; exact h
  mem := ⟨M.lt, fun n o e => (M.ob n o e).up (fun a u h _ => by rw [upd_ne (ne_of_none h hp)]; exact h) (fun _ _ => rfl) (Nat.le_refl _) (fun i => upd_ne fun z => (M.ob n o e).hin i (by rw [z]; exact hp)), M.inj⟩
theorem new_tup (M : RepM S ι H m) {p : Addr} {ds : List D} {vs : List V} (hp : H p = none) (r : RepVs S ι m.nx H ds vs) : RepV S ι m.nx (upd H p (.tup vs)) (.tup ds) (.ref p) :=
  .tup (.of upd_same) ((Step.laid M hp).repVs M r)
def bump (ι : Nat → Addr) (n : Nat) (p : Addr) : Nat → Addr := fun k => if k = n then p else ι k
theorem bump_same {ι : Nat → Addr} {n : Nat} {p : Addr} : bump ι n p n = p := if_pos rfl
theorem bump_ne {ι : Nat → Addr} {n k : Nat} {p : Addr} (h : k ≠ n) : bump ι n p k = ι k := if_neg h
/-- a new list -/
theorem Step.new_lst (M : RepM S ι H m) {p : Addr} {ds : List D} {vs : List V} (hp : H p = none) (r : RepVs S ι m.nx H ds vs) : Step S ι m H (bump ι m.nx p) (m.new (.lst ds)) (upd H p (.lst vs)) := by
  have old : ∀ n o, n ≠ m.nx → (m.new (.lst ds)).get n = some o → m.get n = some o := fun n o hn e => by rw [look_new, if_neg hn] at e; exact e
  have hT : ∀ a u, H a = some u → (∀ xs, u ≠ .lst xs) → upd H p (.lst vs) a = some u := fun a u h _ => by rw [upd_ne (ne_of_none h hp)]; exact h
  have hι : ∀ n, n < m.nx → bump ι m.nx p n = ι n := fun n h => bump_ne (Nat.ne_of_lt h)
  have nin : ∀ n o, n ≠ m.nx → m.get n = some o → o.inH = true → ι n ≠ p := fun n o _ e i z => (M.ob n o e).hin i (by rw [z]; exact hp)
  refine ⟨Nat.le_succ _, hι, fun n o h e i => ?_, fun n o h e i => ⟨o, old n o (Nat.ne_of_lt h) e, i⟩, fun n h ⟨es, e⟩ => ⟨es, old n _ (Nat.ne_of_lt h) e⟩, fun b o h _ => by rw [upd_ne (ne_of_none h hp)]; exact h, fun b h => ?_, fun n o e => ?_, fun n o e => ?_, fun n n' o o' e e' i i' z => ?_⟩
  · by_cases hn : n = m.nx
    · rw [hn, bump_same]; exact hp
    · exact absurd (M.lt n o (old n o hn e)) (Nat.not_lt.mpr h)
  · by_cases hb : b = p
    · rw [hb, upd_same]; simp
    · rw [upd_ne hb]; exact h
  · by_cases hn : n = m.nx
    · rw [hn]; exact Nat.lt_succ_self _
    · exact Nat.lt_succ_of_lt (M.lt n o (old n o hn e))
  · by_cases hn : n = m.nx
    · rw [look_new, if_pos hn] at e
      cases e
      rw [hn, bump_same]
      exact ⟨vs, upd_same, r.up hT hι (Nat.le_succ _)⟩
    · have e1 := old n o hn e
      rw [bump_ne hn]
      exact (M.ob n o e1).up hT hι (Nat.le_succ _) (fun i => upd_ne (nin n o hn e1 i))
  · by_cases hn : n = m.nx <;> by_cases hn' : n' = m.nx
    · rw [hn, hn']
    · rw [hn, bump_same, bump_ne hn'] at z
      exact absurd z.symm (nin n' o' hn' (old n' o' hn' e') i')
    · rw [hn', bump_same, bump_ne hn] at z
      exact absurd z (nin n o hn (old n o hn e) i)
    · rw [bump_ne hn, bump_ne hn'] at z
      exact M.inj n n' o o' (old n o hn e) (old n' o' hn' e') i i' z
/-- a list is changed -/
theorem Step.put_lst (M : RepM S ι H m) {n : Nat} {ds0 ds : List D} {vs : List V} (h0 : m.get n = some (.lst ds0)) (r : RepVs S ι m.nx H ds vs) : Step S ι m H ι (m.put n (.lst ds)) (upd H (ι n) (.lst vs)) := by
  obtain ⟨vs0, hn, _⟩ := M.ob n _ h0
  have hT : ∀ a u, H a = some u → (∀ xs, u ≠ .lst xs) → upd H (ι n) (.lst vs) a = some u := fun a u h hu => by
    rw [upd_ne (fun z => ?_)]
    · exact h
    · rw [z, hn] at h
      exact hu vs0 (Option.some.inj h).symm
  have old : ∀ k o, k ≠ n → (m.put n (.lst ds)).get k = some o → m.get k = some o := fun k o hk e => by rw [get_put_ne hk] at e; exact e
  refine ⟨Nat.le_refl _, fun _ _ => rfl, fun k o h e i => ?_, fun k o h e i => ?_, fun k h ⟨es, e⟩ => ?_, fun b o h w => ?_, fun b h => ?_, fun k o e => ?_, fun k o e => ?_, fun k k' o o' e e' i i' z => ?_⟩
  · by_cases hk : k = n
    · rw [hk] at h; exact absurd (M.lt n _ h0) (Nat.not_lt.mpr h)
    · exact absurd (M.lt k o (old k o hk e)) (Nat.not_lt.mpr h)
  · by_cases hk : k = n
    · rw [hk]; exact ⟨_, h0, rfl⟩
    · exact ⟨o, old k o hk e, i⟩
  · by_cases hk : k = n
    · rw [hk]; exact ⟨_, h0⟩
    · exact ⟨es, old k _ hk e⟩
  · rw [upd_ne (Ne.symm (w n ⟨_, h0⟩))]; exact h
  · by_cases hb : b = ι n
    · rw [hb, upd_same]; simp
    · rw [upd_ne hb]; exact h
  · by_cases hk : k = n
    · rw [hk]; exact M.lt n _ h0
    · exact M.lt k o (old k o hk e)
  · by_cases hk : k = n
    · rw [hk, get_put_same h0] at e
      cases e
      rw [hk]
      exact ⟨vs, upd_same, r.up hT (fun _ _ => rfl) (Nat.le_refl _)⟩
    · have e1 := old k o hk e
      exact (M.ob k o e1).up hT (fun _ _ => rfl) (Nat.le_refl _) (fun i => upd_ne fun z => hk (M.inj k n _ _ e1 h0 i rfl z))
  · have back : ∀ k o, (m.put n (.lst ds)).get k = some o → o.inH = true → ∃ o', m.get k = some o' ∧ o'.inH = true := fun k o e i => by
      by_cases hk : k = n
      · rw [hk]; exact ⟨_, h0, rfl⟩
      · exact ⟨o, old k o hk e, i⟩
    obtain ⟨u, a1, a2⟩ := back k o e i
    obtain ⟨u', b1, b2⟩ := back k' o' e' i'
    exact M.inj k k' u u' a1 b1 a2 b2 z
/-- a list is held, and let go -/
theorem Step.hold (M : RepM S ι H m) {n : Nat} {ds : List D} (h0 : m.get n = some (.lst ds)) : Step S ι m H ι (m.put n (.rol ds)) H := by
  have old : ∀ k o, k ≠ n → (m.put n (.rol ds)).get k = some o → m.get k = some o := fun k o hk e => by rw [get_put_ne hk] at e; exact e
  have back : ∀ k o, (m.put n (.rol ds)).get k = some o → o.inH = true → ∃ o', m.get k = some o' ∧ o'.inH = true := fun k o e i => by
    by_cases hk : k = n
    · rw [hk]; exact ⟨_, h0, rfl⟩
    · exact ⟨o, old k o hk e, i⟩
  refine ⟨Nat.le_refl _, fun _ _ => rfl, fun k o h e i => ?_, fun k o h e i => back k o e i, fun k h ⟨es, e⟩ => ?_, fun b o h _ => h, fun b h => h, fun k o e => ?_, fun k o e => ?_, fun k k' o o' e e' i i' z => ?_⟩
  · obtain ⟨u, a1, _⟩ := back k o e i
    exact absurd (M.lt k u a1) (Nat.not_lt.mpr h)
  · by_cases hk : k = n
    · rw [hk]; exact ⟨_, h0⟩
    · exact ⟨es, old k _ hk e⟩
  · by_cases hk : k = n
    · rw [hk]; exact M.lt n _ h0
    · exact M.lt k o (old k o hk e)
  · by_cases hk : k = n
    · rw [hk, get_put_same h0] at e
      cases e
      obtain ⟨vs, a, b⟩ := M.ob n _ h0
      rw [hk]
      exact ⟨vs, .inl a, b⟩
    · exact M.ob k o (old k o hk e)
  · obtain ⟨u, a1, a2⟩ := back k o e i
    obtain ⟨u', b1, b2⟩ := back k' o' e' i'
    exact M.inj k k' u u' a1 b1 a2 b2 z
/-- what is held stands, whatever is done -/
theorem Step.held (M : RepM S ι H m) {n : Nat} {ds : List D} {ι' : Nat → Addr} {m' : Mem} {H' : Hp} (h0 : m.get n = some (.lst ds)) (T : Step S ι (m.put n (.rol ds)) H ι' m' H') : ∃ vs, H (ι n) = some (.lst vs) ∧ H' (ι n) = some (.lst vs) ∧ RepVs S ι' m'.nx H' ds vs := by
  obtain ⟨vs, a, b⟩ := M.ob n _ h0
  have M1 := (Step.hold M h0).mem
  refine ⟨vs, a, T.keep _ _ a fun k ⟨es, e⟩ z => ?_, T.repVs M1 b⟩
  have hk : k ≠ n := fun q => by rw [q, get_put_same h0] at e; cases e
  rw [get_put_ne hk] at e
  exact hk (M.inj k n _ _ e h0 rfl rfl z)
theorem Step.let_go (M : RepM S ι H m) {n : Nat} {ds : List D} {ι' : Nat → Addr} {m' : Mem} {H' : Hp} (h0 : m.get n = some (.lst ds)) (T : Step S ι (m.put n (.rol ds)) H ι' m' H') : Step S ι m H ι' (m'.put n (.lst ds)) H' := by
  obtain ⟨vs, a, b, c⟩ := Step.held M h0 T
  have hn : n < m.nx := M.lt n _ h0
  have hι : ι' n = ι n := T.ext n hn
  have T0 := (Step.hold M h0).trans T
  have old : ∀ k o, k ≠ n → (m'.put n (.lst ds)).get k = some o → m'.get k = some o := fun k o hk e => by rw [get_put_ne hk] at e; exact e
  have atn : ∀ o, (m'.put n (.lst ds)).get n = some o → (∃ u, m'.get n = some u) ∧ o = .lst ds := fun o e => by
    rw [get_put, if_pos rfl] at e
    cases q : m'.get n with
    | none => rw [q] at e; cases e
    | some u => rw [q] at e; cases e; exact ⟨⟨u, rfl⟩, rfl⟩
  have M' := T.mem
  refine ⟨T.nx, T0.ext, fun k o h e i => ?_, fun k o h e i => ?_, fun k h ⟨es, e⟩ => ?_, T0.keep, T0.there, fun k o e => ?_, fun k o e => ?_, fun k k' o o' e e' i i' z => ?_⟩
  · by_cases hk : k = n
    · rw [hk] at h; exact absurd hn (Nat.not_lt.mpr h)
    · exact T0.new k o h (old k o hk e) i
  · by_cases hk : k = n
    · rw [hk]; exact ⟨_, h0, rfl⟩
    · exact T0.sub k o h (old k o hk e) i
  · by_cases hk : k = n
    · rw [hk]; exact ⟨_, h0⟩
    · exact T0.subw k h ⟨es, old k _ hk e⟩
  · by_cases hk : k = n
    · rw [hk]; exact Nat.lt_of_lt_of_le hn T.nx
    · exact M'.lt k o (old k o hk e)
  · by_cases hk : k = n
    · rw [hk] at e
      obtain ⟨_, e2⟩ := atn o e
      rw [e2, hk, hι]
      exact ⟨vs, b, c⟩
    · exact M'.ob k o (old k o hk e)
  · -- the object at n lies where it lay
    have key : ∀ k o, k ≠ n → m'.get k = some o → o.inH = true → ι' k ≠ ι n := fun k o hk e i z => by
      by_cases h : k < m.nx
      · obtain ⟨u, a1, a2⟩ := T0.sub k o h e i
        rw [T0.ext k h] at z
        exact hk (M.inj k n u _ a1 h0 a2 rfl z)
      · have q := T0.new k o (Nat.le_of_not_lt h) e i
        rw [z, a] at q
        cases q
    by_cases hk : k = n <;> by_cases hk' : k' = n
    · rw [hk, hk']
    · rw [hk, hι] at z
      exact absurd z.symm (key k' o' hk' (old k' o' hk' e') i')
    · rw [hk', hι] at z
      exact absurd z (key k o hk (old k o hk e) i)
    · exact M'.inj k k' o o' (old k o hk e) (old k' o' hk' e') i i' z
/-- what is no longer wanted is forgotten -/
theorem look_gc {n k : Nat} : ∀ {l : List (Nat × O)}, look k (gcL n l) = if k < n then look k l else none
  | [] => by unfold gcL look; split <;> rfl
  | (j, u) :: r => by
    have ih := look_gc (n := n) (k := k) (l := r)
    unfold gcL
    by_cases hk : k = j
    · cases hp : Nat.blt j n with
      | true =>
        have hj : j < n := Nat.le_of_ble_eq_true hp
        rw [hk, if_pos hj]
        show (match Nat.beq j j with | true => some u | false => look j (gcL n r)) = (match Nat.beq j j with | true => some u | false => look j r)
        rw [Nat.beq_refl]
      | false =>
        have hj : ¬ k < n := fun h => by
          rw [← hk, show Nat.blt k n = true from Nat.ble_eq_true_of_le h] at hp
          cases hp
        rw [if_neg hj] at ih ⊢
        exact ih
    · have e2 : look k ((j, u) :: r) = look k r := by
        show (match Nat.beq k j with | true => some u | false => look k r) = look k r
        rw [nbf hk]
      rw [e2]
      cases hp : Nat.blt j n with
      | true =>
        show (match Nat.beq k j with | true => some u | false => look k (gcL n r)) = _
        rw [nbf hk]
        exact ih
      | false => exact ih
theorem get_cut {n j : Nat} {o : O} (h : (cutM n m).get j = some o) : j < n ∧ m.get j = some o := by
  have h : look j (gcL n m.ob) = some o := h
  rw [look_gc] at h
  split at h
  · exact ⟨by assumption, h⟩
  · cases h
mutual
theorem RepV.low {nx n : Nat} : ∀ {d v}, RepV S ι nx H d v → lowD n d = true → RepV S ι n H d v
  | _, _, .non, _ => .non
  | _, _, .bl b, _ => .bl b
  | _, _, .int b, _ => .int b
  | _, _, .str b, _ => .str b
  | _, _, .ref h, l => .ref (Nat.le_of_ble_eq_true l)
  | _, _, .fn k, _ => .fn k
  | _, _, .ty k, _ => .ty k
  | _, _, .tup h r, l => .tup h (RepVs.low r l)
theorem RepVs.low {nx n : Nat} : ∀ {ds vs}, RepVs S ι nx H ds vs → lowDs n ds = true → RepVs S ι n H ds vs
  | _, _, .nil, _ => .nil
  | _, _, .cons (d := d) (ds := ds) h r, l => by
    have l : (match lowD n d with | true => lowDs n ds | false => false) = true := l
    cases e : lowD n d with
    | true => rw [e] at l; exact .cons (h.low e) (RepVs.low r l)
    | false => rw [e] at l; cases l
end
theorem RepO.low {nx n : Nat} {a : Addr} {o : O} (r : RepO S ι nx H a o) (h : lowO n o = true) : RepO S ι n H a o := by
  cases o with
  | lst ds => obtain ⟨vs, a, b⟩ := r; exact ⟨vs, a, b.low h⟩
  | rol ds => obtain ⟨vs, a, b⟩ := r; exact ⟨vs, a, b.low h⟩
  | kol ds => obtain ⟨vs, a, b⟩ := r; exact ⟨vs, a, b.low h⟩
  | scr ns => exact r
theorem lowM_ok {n : Nat} : ∀ {l : List (Nat × O)} {k : Nat} {o : O}, lowM n l = true → k < n → look k l = some o → lowO n o = true
  | (j, u) :: r, k, o, h, hk, e => by
    have e : (match Nat.beq k j with | true => some u | false => look k r) = some o := e
    have h : (match Nat.blt j n with | true => (match lowO n u with | true => lowM n r | false => false) | false => lowM n r) = true := h
    by_cases hj : k = j
    · subst hj
      rw [Nat.beq_refl] at e
      cases e
      rw [show Nat.blt k n = true from Nat.ble_eq_true_of_le hk] at h
      cases q : lowO n u with
      | true => rfl
      | false => rw [q] at h; cases h
    · rw [nbf hj] at e
      refine lowM_ok (l := r) ?_ hk e
      cases q : Nat.blt j n with
      | false => rw [q] at h; exact h
      | true =>
        rw [q] at h
        cases q2 : lowO n u with
        | true => rw [q2] at h; exact h
        | false => rw [q2] at h; cases h
theorem canCut_ok {n : Nat} (h : canCut n m = true) : lowM n m.ob = true := by
  unfold canCut at h
  split at h
  · cases h
  · exact h
section
variable {ι' : Nat → Addr} {m' : Mem} {H' : Hp}
theorem Step.cut (T : Step S ι m H ι' m' H') (h : canCut m.nx m' = true) : Step S ι m H ι' (cutM m.nx m') H' where
  nx := Nat.le_refl _
  ext := T.ext
  new := fun j o h e => T.new j o h (get_cut e).2
  sub := fun j o h e => T.sub j o h (get_cut e).2
  subw := fun j h ⟨es, e⟩ => T.subw j h ⟨es, (get_cut e).2⟩
  keep := T.keep
  there := T.there
  mem := ⟨fun j o e => (get_cut e).1, fun j o e => (T.mem.ob j o (get_cut e).2).low (lowM_ok (canCut_ok h) (get_cut e).1 (get_cut e).2), fun j j' o o' e e' => T.mem.inj j j' o o' (get_cut e).2 (get_cut e').2⟩
theorem Step.tidy (T : Step S ι m H ι' m' H') : Step S ι m H ι' (tdM m.nx m') H' := by
  unfold tdM
  cases h : canCut m.nx m' with
  | true => exact T.cut h
  | false => exact T
theorem lowR_at {n : Nat} : ∀ {ρ : Rho} {i : Nat} {d : D}, getR (lowR n ρ) i = some d → getR ρ i = some d ∧ lowD n d = true
  | [], _, _, h => by cases h
  | some x :: r, 0, d, h => by
    have h : (match lowD n x with | true => some x | false => none) = some d := h
    cases e : lowD n x with
    | true => rw [e] at h; cases h; exact ⟨rfl, e⟩
    | false => rw [e] at h; cases h
  | none :: r, 0, d, h => by cases h
  | some x :: r, i + 1, d, h => lowR_at (ρ := r) h
  | none :: r, i + 1, d, h => lowR_at (ρ := r) h
theorem lowR_len {n : Nat} : ∀ {ρ : Rho}, (lowR n ρ).length = ρ.length
  | [] => rfl
  | some x :: r => congrArg (· + 1) lowR_len
  | none :: r => congrArg (· + 1) lowR_len
theorem RepS.tidy {n : Nat} {ρ : Rho} {σ : L2.St} (r : RepS S ι' m'.nx H' ρ σ) : RepS S ι' (tdM n m').nx H' (tdR n m' ρ) σ := by
  unfold tdM tdR
  cases h : canCut n m' with
  | true => exact ⟨by rw [lowR_len]; exact r.len, fun i d e => let ⟨v, a, b⟩ := r.at_ i d (lowR_at e).1; ⟨v, a, b.low (lowR_at e).2⟩⟩
  | false => exact r
theorem lowAll_at {n : Nat} : ∀ {ρ : Rho} {i : Nat} {d : D}, lowAll n ρ = true → getR ρ i = some d → lowD n d = true
  | some x :: r, 0, d, h, e => by
    have h : (match lowD n x with | true => lowAll n r | false => false) = true := h
    have e : x = d := Option.some.inj e
    rw [← e]
    cases q : lowD n x with
    | true => rfl
    | false => rw [q] at h; cases h
  | none :: r, 0, d, _, e => by cases e
  | some x :: r, i + 1, d, h, e => by
    have h : (match lowD n x with | true => lowAll n r | false => false) = true := h
    cases q : lowD n x with
    | true => rw [q] at h; exact lowAll_at (ρ := r) h e
    | false => rw [q] at h; cases h
  | none :: r, i + 1, d, h, e => lowAll_at (ρ := r) h e
theorem Step.tidyS (T : Step S ι m H ι' m' H') (ρ : Rho) : Step S ι m H ι' (tdS m.nx ρ m') H' := by
  unfold tdS
  cases h : canCut m.nx m' with
  | true =>
    dsimp only
    cases lowAll m.nx ρ with
    | true => exact T.cut h
    | false => exact T
  | false => exact T
theorem RepS.tidyS {n : Nat} {ρ : Rho} {σ : L2.St} (r : RepS S ι' m'.nx H' ρ σ) : RepS S ι' (tdS n ρ m').nx H' ρ σ := by
  unfold tdS
  cases h : canCut n m' with
  | true =>
    dsimp only
    cases h2 : lowAll n ρ with
    | true => exact ⟨r.len, fun i d e => let ⟨v, a, b⟩ := r.at_ i d e; ⟨v, a, b.low (lowAll_at h2 e)⟩⟩
    | false => exact r
  | false => exact r
/-- a fresh list is kept, at the first place -/
theorem Step.move (T : Step S ι m H ι' m' H') (h : canCut m.nx m' = true) {r : Nat} {ds : List D} (hr : m'.get r = some (.lst ds)) (hn : m.nx ≤ r) (hd : lowDs m.nx ds = true) :
    Step S ι m H (bump ι' m.nx (ι' r)) ⟨m.nx + 1, (m.nx, .lst ds) :: gcL m.nx m'.ob⟩ H' := by
  have get1 : ∀ j o, (⟨m.nx + 1, (m.nx, .lst ds) :: gcL m.nx m'.ob⟩ : Mem).get j = some o → (j = m.nx ∧ o = .lst ds) ∨ (j < m.nx ∧ m'.get j = some o) := fun j o e => by
    have e : (match Nat.beq j m.nx with | true => some (O.lst ds) | false => look j (gcL m.nx m'.ob)) = some o := e
    by_cases hj : j = m.nx
    · rw [hj, Nat.beq_refl] at e
      exact .inl ⟨hj, (Option.some.inj e).symm⟩
    · rw [nbf hj] at e
      exact .inr (get_cut (m := m') e)
  have C := T.cut h
  have hι : ∀ j, j < m.nx → bump ι' m.nx (ι' r) j = ι' j := fun j h => bump_ne (Nat.ne_of_lt h)
  refine ⟨Nat.le_succ _, fun j h => by rw [hι j h]; exact T.ext j h, fun j o h e i => ?_, fun j o h e i => ?_, fun j h ⟨es, e⟩ => ?_, T.keep, T.there, fun j o e => ?_, fun j o e => ?_, fun j j' o o' e e' i i' z => ?_⟩
  · rcases get1 j o e with ⟨rfl, _⟩ | ⟨h2, _⟩
    · rw [bump_same]; exact T.new r _ hn hr rfl
    · exact absurd h2 (Nat.not_lt.mpr h)
  · rcases get1 j o e with ⟨rfl, _⟩ | ⟨_, e⟩
    · exact absurd h (Nat.lt_irrefl _)
    · exact T.sub j o h e i
  · rcases get1 j _ e with ⟨rfl, _⟩ | ⟨_, e⟩
    · exact absurd h (Nat.lt_irrefl _)
    · exact T.subw j h ⟨es, e⟩
  · rcases get1 j o e with ⟨rfl, _⟩ | ⟨h, _⟩
    · exact Nat.lt_succ_self _
    · exact Nat.lt_succ_of_lt h
  · rcases get1 j o e with ⟨rfl, rfl⟩ | ⟨hj, e⟩
    · obtain ⟨vs, a, b⟩ := T.mem.ob r _ hr
      rw [bump_same]
      exact ⟨vs, a, (b.low hd).up (fun _ _ h _ => h) hι (Nat.le_succ _)⟩
    · rw [hι j hj]
      exact ((T.mem.ob j o e).low (lowM_ok (canCut_ok h) hj e)).up (fun _ _ h _ => h) hι (Nat.le_succ _) fun _ => rfl
  · have key : ∀ j o, j < m.nx → m'.get j = some o → o.inH = true → ι' j ≠ ι' r := fun j o hj e i z => by
      have := T.mem.inj j r o _ e hr i rfl z
      omega
    rcases get1 j o e with ⟨rfl, rfl⟩ | ⟨hj, e⟩ <;> rcases get1 j' o' e' with ⟨rfl, rfl⟩ | ⟨hj', e'⟩
    · rfl
    · rw [bump_same, hι j' hj'] at z
      exact absurd z.symm (key j' o' hj' e' i')
    · rw [bump_same, hι j hj] at z
      exact absurd z (key j o hj e i)
    · rw [hι j hj, hι j' hj'] at z
      exact T.mem.inj j j' o o' e e' i i' z
end
end
end Ev

set_option Elab.async false
set_option linter.all false
set_option maxRecDepth 100000
set_option maxHeartbeats 4000000
namespace Ev
open PySem PySem.Spec PyProof.Rows L2

/-! ## operations by values -/
def r2M (S : Sta) (f : D → D → MV D) : R2 := fun x y H Q => ∃ ι m E d e, RepM S ι H m ∧ RepV S ι m.nx H d x ∧ RepV S ι m.nx H e y ∧ PostG S ι m H E (f d e m) fun c ι' m' H' => ∀ v, RepV S ι' m'.nx H' c v → Q v H'
def rcM (S : Sta) (f : List D → MV D) : List V → Hp → VK → Prop := fun xs H Q => ∃ ι m E ds, RepM S ι H m ∧ RepVs S ι m.nx H ds xs ∧ PostG S ι m H E (f ds m) fun c ι' m' H' => ∀ v, RepV S ι' m'.nx H' c v → Q v H'
section
variable {S : Sta} {ι : Nat → Addr} {nx : Nat} {m : Mem} {H : Hp} {X : Cx}
theorem RepVs.len : ∀ {ds : List D} {vs : List V}, RepVs S ι nx H ds vs → ds.length = vs.length
  | _, _, .nil => rfl
  | _, _, .cons _ r => congrArg (· + 1) r.len
theorem RepVs.app : ∀ {ds es : List D} {vs us : List V}, RepVs S ι nx H ds vs → RepVs S ι nx H es us → RepVs S ι nx H (ds ++ es) (vs ++ us)
  | _, _, _, _, .nil, q => q
  | _, _, _, _, .cons h r, q => .cons h (r.app q)
theorem RepVs.drop : ∀ {ds : List D} {vs : List V} (n : Nat), RepVs S ι nx H ds vs → RepVs S ι nx H (ds.drop n) (vs.drop n)
  | _, _, 0, r => r
  | _, _, _ + 1, .nil => .nil
  | _, _, n + 1, .cons _ r => r.drop n
theorem RepVs.take : ∀ {ds : List D} {vs : List V} (n : Nat), RepVs S ι nx H ds vs → RepVs S ι nx H (ds.take n) (vs.take n)
  | _, _, 0, _ => .nil
  | _, _, _ + 1, .nil => .nil
  | _, _, n + 1, .cons h r => .cons h (r.take n)
theorem RepVs.set : ∀ {ds : List D} {vs : List V} {d : D} {v : V} (n : Nat), RepV S ι nx H d v → RepVs S ι nx H ds vs → RepVs S ι nx H (ds.set n d) (vs.set n v)
  | _, _, _, _, _, _, .nil => .nil
  | _, _, _, _, 0, h, .cons _ r => .cons h r
  | _, _, _, _, n + 1, h, .cons g r => .cons g (RepVs.set n h r)
theorem RepVs.get : ∀ {ds : List D} {vs : List V} {d : D} (n : Nat), RepVs S ι nx H ds vs → ds[n]? = some d → ∃ v, vs[n]? = some v ∧ RepV S ι nx H d v
  | _, _, _, _, .nil, e => by simp at e
  | _, _, _, 0, .cons h r, e => by
    simp at e
    exact ⟨_, by simp, e ▸ h⟩
  | _, _, _, n + 1, .cons h r, e => by
    obtain ⟨v, a, b⟩ := r.get n (by simpa using e)
    exact ⟨v, by simpa using a, b⟩
theorem RepVs.atI {ds : List D} {vs : List V} {i : Int} {d : D} (r : RepVs S ι nx H ds vs) (h : L2.atI ds i = some d) : ∃ v, L2.atI vs i = some v ∧ RepV S ι nx H d v := by
  unfold L2.atI at h ⊢
  rw [← r.len]
  cases e : L2.ixN ds.length i with
  | none => rw [e] at h; cases h
  | some j =>
    rw [e] at h
    exact r.get j h
theorem RepVs.rep : ∀ {ds : List D} {vs : List V} (n : Nat), RepVs S ι nx H ds vs → RepVs S ι nx H (List.replicate n ds).flatten (List.replicate n vs).flatten
  | _, _, 0, _ => .nil
  | ds, vs, n + 1, r => by
    rw [List.replicate_succ, List.replicate_succ, List.flatten_cons, List.flatten_cons]
    exact r.app (RepVs.rep n r)
theorem ints_rep {S : Sta} {ι : Nat → Addr} {nx : Nat} {H : Hp} : ∀ ns : List Int, RepVs S ι nx H (ns.map D.int) (ns.map V.int)
  | [] => .nil
  | i :: r => .cons (.int i) (ints_rep r)
theorem RepM.lstL (M : RepM S ι H m) {n : Nat} {ds : List D} (e : m.lst n = some ds) : ∃ vs, SqL S.K H (ι n) vs ∧ RepVs S ι m.nx H ds vs := by
  unfold Mem.lst at e
  cases q : m.get n with
  | none => rw [q] at e; cases e
  | some o =>
    rw [q] at e
    have r := M.ob n o q
    cases o with
    | lst es => cases e; obtain ⟨vs, a, b⟩ := r; exact ⟨vs, .of a, b⟩
    | rol es => cases e; obtain ⟨vs, a, b⟩ := r; exact ⟨vs, .inl a, b⟩
    | kol es => cases e; obtain ⟨vs, a, b⟩ := r; exact ⟨vs, .inr a, b⟩
    | scr ns => cases e; exact ⟨_, r.elim .inr fun ⟨o, z⟩ => .inl (.inr ⟨o, z⟩), ints_rep ns⟩
theorem RepM.seq (M : RepM S ι H m) {d : D} {v : V} {ds : List D} (e : seqOf m d = some ds) (r : RepV S ι m.nx H d v) : ∃ a vs, v = .ref a ∧ (SqL S.K H a vs ∨ SqT S.K H a vs) ∧ RepVs S ι m.nx H ds vs := by
  cases r with
  | tup h q => cases e; exact ⟨_, _, rfl, .inr h, q⟩
  | ref h =>
    obtain ⟨vs, a, b⟩ := M.lstL e
    exact ⟨_, _, rfl, .inl a, b⟩
  | _ => cases e
/-! ### data as a whole -/
theorem omap_cons {α β : Type} {f : α → Option β} {a : α} {r : List α} {z : List β} (h : omap f (a :: r) = some z) : ∃ b bs, f a = some b ∧ omap f r = some bs ∧ z = b :: bs := by
  unfold omap at h
  cases e : f a with
  | none => rw [e] at h; cases h
  | some b =>
    rw [e] at h
    cases e2 : omap f r with
    | none => rw [e2] at h; cases h
    | some bs => rw [e2] at h; cases h; exact ⟨b, bs, rfl, rfl, rfl⟩
theorem toPy_all {f : D → Option PyData} {k : Nat} (hf : ∀ d v p, f d = some p → RepV S ι nx H d v → Dp S.K H v p ∧ p.canLay0 = true ∧ p.depth ≤ k) : ∀ {ds : List D} {vs : List V} {ps : List PyData}, omap f ds = some ps → RepVs S ι nx H ds vs →
    DpAll S.K H vs ps ∧ PyData.canLayAll0 ps = true ∧ PyData.depthAll ps ≤ k
  | [], _, _, h, r => by
    cases r
    cases h
    exact ⟨.nil, by simp [PyData.canLayAll0], by simp [PyData.depthAll]⟩
  | d :: ds, _, _, h, r => by
    obtain ⟨b, bs, h1, h2, rfl⟩ := omap_cons h
    cases r with
    | cons q r =>
      obtain ⟨a1, a2, a3⟩ := hf _ _ _ h1 q
      obtain ⟨b1, b2, b3⟩ := toPy_all hf h2 r
      exact ⟨.cons a1 b1, by simp [PyData.canLayAll0, a2, b2], by simp only [PyData.depthAll]; omega⟩
theorem toPy_ok (M : RepM S ι H m) : ∀ (f : Nat) (d : D) (v : V) (p : PyData), toPy m f d = some p → RepV S ι m.nx H d v → Dp S.K H v p ∧ p.canLay0 = true ∧ p.depth ≤ f
  | f, d, v, p, h, r => by
    cases r with
    | non => unfold toPy at h; cases h; exact ⟨.non, by simp [PyData.canLay0], by simp [PyData.depth]⟩
    | bl b => unfold toPy at h; cases h; exact ⟨.bl b, by simp [PyData.canLay0], by simp [PyData.depth]⟩
    | int b => unfold toPy at h; cases h; exact ⟨.int b, by simp [PyData.canLay0], by simp [PyData.depth]⟩
    | str x =>
      unfold toPy at h
      cases e : PyData.strOk x with
      | false => rw [e] at h; cases h
      | true => rw [e] at h; cases h; exact ⟨.str x, by simp [PyData.canLay0, e], by simp [PyData.depth]⟩
    | fn k => cases f <;> (unfold toPy at h; cases h)
    | ty k => cases f <;> (unfold toPy at h; cases h)
    | @tup a vs ds hs q =>
      cases f with
      | zero => unfold toPy at h; cases h
      | succ f =>
        unfold toPy at h
        cases e : omap (toPy m f) ds with
        | none => rw [e] at h; cases h
        | some xs =>
          rw [e] at h
          cases h
          obtain ⟨b1, b2, b3⟩ := toPy_all (fun d v p => toPy_ok M f d v p) e q
          exact ⟨.tup hs b1, by simp [PyData.canLay0, b2], by simp only [PyData.depth]; omega⟩
    | @ref n hn =>
      cases f with
      | zero => unfold toPy at h; cases h
      | succ f =>
        unfold toPy at h
        cases e0 : m.lst n with
        | none => rw [e0] at h; cases h
        | some ds =>
          rw [e0] at h
          have h : (match omap (toPy m f) ds with | some xs => some (PyData.list xs) | none => none) = some p := h
          obtain ⟨vs, a, b⟩ := M.lstL e0
          cases e : omap (toPy m f) ds with
          | none => rw [e] at h; cases h
          | some xs =>
            rw [e] at h
            cases h
            obtain ⟨b1, b2, b3⟩ := toPy_all (fun d v p => toPy_ok M f d v p) e b
            exact ⟨.lst a b1, by simp [PyData.canLay0, b2], by simp only [PyData.depth]; omega⟩
theorem toPy_sh (M : RepM S ι H m) {d : D} {v : V} {p : PyData} (h : toPy m 9 d = some p) (r : RepV S ι m.nx H d v) : Dp S.K H v p ∧ SeqAt.shaped p = true := by
  obtain ⟨a, b, c⟩ := toPy_ok M 9 d v p h r
  refine ⟨a, ?_⟩
  unfold SeqAt.shaped
  rw [b, decide_eq_true (show p.depth ≤ 64 by omega)] <;> rfl
theorem guardO_some {α : Type} {b : Bool} {a c : α} (h : guardO b a = some c) : b = true ∧ a = c := by
  cases b with
  | false => cases h
  | true => exact ⟨rfl, Option.some.inj h⟩
/-- an outcome that is plain -/
theorem PostG.opt {α : Type} {E : XK} {o : Option α} {Q : α → (Nat → Addr) → Mem → Hp → Prop} (M : RepM S ι H m) (p : PostG S ι m H E (Ev.opt o m) Q) : ∃ a, o = some a ∧ Q a ι m H := by
  cases o with
  | none => exact p.elim
  | some a => exact ⟨a, rfl, PostG.ok M p⟩
theorem PostG.newL {E : XK} {ds : List D} {vs : List V} {Q : D → (Nat → Addr) → Mem → Hp → Prop} (M : RepM S ι H m) (p : PostG S ι m H E (Ev.newL ds m) Q) (r : RepVs S ι m.nx H ds vs) :
    ds.length ≤ 16000000 ∧ ∀ a, H a = none → ∃ ι' m', Q (.ref m.nx) ι' m' (upd H a (.lst vs)) ∧ RepV S ι' m'.nx (upd H a (.lst vs)) (.ref m.nx) (.ref a) ∧ RepM S ι' (upd H a (.lst vs)) m' := by
  unfold Ev.newL at p
  cases e : Nat.ble ds.length 16000000 with
  | false => rw [e] at p; exact p.elim
  | true =>
    rw [e] at p
    refine ⟨Nat.le_of_ble_eq_true e, fun a ha => ?_⟩
    have T := Step.new_lst M ha r
    refine ⟨_, _, p _ _ T, ?_, T.mem⟩
    have q : RepV S (bump ι m.nx a) (m.new (.lst ds)).nx (upd H a (.lst vs)) (.ref m.nx) (.ref (bump ι m.nx a m.nx)) := .ref (Nat.lt_succ_self _)
    rw [bump_same] at q
    exact q
theorem le_line {n : Nat} (h : n ≤ 16000000) : n ≤ sizeLine := by rw [sizeLine_eq]; omega
end
/-! ### + - * // % ** -/
def BOp.py : BOp → Operator | .add => .Add | .sub => .Sub | .mul => .Mult | .fdiv => .FloorDiv | .mod => .Mod | .pow => .Pow
theorem mul_ok {i j : Int} (h : mulOk i j = true) : PySem.IntMulOk i j := by
  unfold mulOk at h
  simp only [Bool.or_eq_true, b64, Bool.and_eq_true, decide_eq_true_eq] at h
  rcases h with (h | h) | h
  · exact CMul.ok (.inl ⟨by omega, by omega⟩)
  · exact CMul.ok (.inr ⟨by omega, by omega⟩)
  · exact CMulW.ok (Nat.le_of_ble_eq_true h)
section
variable {S : Sta} {X : Cx}
theorem op_int (op : BOp) : OpR X (binaryOp op.py) fun x y H Q => ∃ i j k, x = .int i ∧ y = .int j ∧ binI op i j = some k ∧ Q (.int k) H := by
  rintro pins s σ H x y v u Q I rx ry ⟨i, j, k, rfl, rfl, e, q⟩
  obtain ⟨t, rfl⟩ := rx
  obtain ⟨t', rfl⟩ := ry
  have fin : ∀ z, z = k → EP X pins σ Q (.int z s.toks) { s with toks := s.toks + 1 } := fun z hz => ⟨.int k, H, I.tok _, ⟨s.toks, hz ▸ rfl⟩, q⟩
  cases op with
  | add => exact add_int (fin _ (Option.some.inj e))
  | sub => exact sub_int (fin _ (Option.some.inj e))
  | mul => obtain ⟨h, e⟩ := guardO_some e; exact mul_int (fin _ e) (mul_ok h)
  | fdiv =>
    obtain ⟨h, e⟩ := guardO_some e
    simp only [Bool.and_eq_true, Bool.not_eq_true', decide_eq_false_iff_not] at h
    exact floordiv_int h.1 (fin _ e) (.inl (PyProof.noPylong_of_log2 (Nat.le_of_ble_eq_true h.2)))
  | mod =>
    obtain ⟨h, e⟩ := guardO_some e
    simp only [Bool.not_eq_true', decide_eq_false_iff_not] at h
    exact mod_int' h (fin _ e)
  | pow =>
    obtain ⟨h, e⟩ := guardO_some e
    simp only [Bool.and_eq_true, decide_eq_true_eq] at h
    refine pow_int h.1 ?_ (fin _ e)
    have h2 := Nat.le_of_ble_eq_true h.2
    have h3 : Builtin.Int.intBits i ≤ i.natAbs.log2 + 1 := by unfold Builtin.Int.intBits; split <;> omega
    have h4 : Builtin.Int.intBits i * j.toNat ≤ 134217728 := Nat.le_trans (Nat.mul_le_mul_right _ h3) h2
    have e5 : (Builtin.Int.intBits i : Int) * j = ((Builtin.Int.intBits i * j.toNat : Nat) : Int) := by
      rw [Int.natCast_mul, Int.toNat_of_nonneg h.1]
    rw [e5]
    have e6 : ((2 : Int) ^ 27) = ((134217728 : Nat) : Int) := by decide
    rw [e6]
    exact Int.ofNat_le.mpr h4
theorem ob (hK : X.K = S.K) (op : BOp) : OpR X (binaryOp op.py) (r2M S (binF op)) := by
  intro pins s σ H x y v u Q I rx ry ⟨ι, m, E, d, e, M, rd, re, p⟩
  cases rd with
  | int i =>
    cases re with
    | int j =>
      obtain ⟨c, hc, q⟩ := PostG.opt M p
      cases hb : binI op i j with
      | none => rw [hb] at hc; cases hc
      | some k =>
        rw [hb] at hc
        cases hc
        exact op_int op pins s σ H _ _ v u Q I rx ry ⟨i, j, k, rfl, rfl, hb, q _ (.int k)⟩
    | _ => exact p.elim
  | str a =>
    cases re with
    | str b =>
      cases op with
      | add =>
        obtain ⟨c, hc, q⟩ := PostG.opt M p
        obtain ⟨h, rfl⟩ := guardO_some hc
        exact op_add_str pins s σ H _ _ v u Q I rx ry ⟨a, b, rfl, rfl, le_line (Nat.le_of_ble_eq_true h), q _ (.str _)⟩
      | _ => exact p.elim
    | _ => exact p.elim
  | @tup a xs ds ha r =>
    cases re with
    | @tup b ys es hb r2 =>
      cases op with
      | add =>
        obtain ⟨c, hc, q⟩ := PostG.opt M p
        obtain ⟨h, rfl⟩ := guardO_some hc
        have h := Nat.le_of_ble_eq_true h
        refine op_catA pins s σ H _ _ v u Q I rx ry ⟨a, b, xs, ys, rfl, rfl, by rw [hK]; exact ha, by rw [hK]; exact hb, le_line (by rw [← r.len, ← r2.len]; exact h), fun z => ?_, fun _ z => ?_, fun _ _ t ht => ?_⟩
        · subst z
          cases r
          exact q _ (.tup hb r2)
        · subst z
          cases r2
          rw [List.append_nil] at q
          exact q _ (.tup ha r)
        · have p' := PostG.step (Step.laid M ht (u := .tup (xs ++ ys))) p
          have M' := (Step.laid M ht (u := .tup (xs ++ ys))).mem
          obtain ⟨c, hc, q⟩ := PostG.opt M' p'
          obtain ⟨_, rfl⟩ := guardO_some hc
          exact q _ (new_tup M ht (r.app r2))
      | _ => exact p.elim
    | int k =>
      cases op with
      | mul =>
        obtain ⟨c, hc, q⟩ := PostG.opt M p
        obtain ⟨h, rfl⟩ := guardO_some hc
        simp only [Bool.and_eq_true, decide_eq_true_eq] at h
        obtain ⟨⟨⟨h1, h2⟩, h3⟩, h4⟩ := h
        refine op_repT pins s σ H _ _ v u Q I rx ry ⟨a, k, xs, rfl, rfl, by rw [hK]; exact ha, ?_, h1, h2, by rw [← r.len]; exact Nat.le_of_ble_eq_true h4, fun t ht => ?_⟩
        · intro z
          subst z
          cases r
          exact absurd h3 (by decide)
        · have p' := PostG.step (Step.laid M ht (u := .tup (List.replicate k.toNat xs).flatten)) p
          have M' := (Step.laid M ht (u := .tup (List.replicate k.toNat xs).flatten)).mem
          obtain ⟨c, hc, q⟩ := PostG.opt M' p'
          obtain ⟨_, rfl⟩ := guardO_some hc
          exact q _ (new_tup M ht (r.rep _))
      | _ => exact p.elim
    | _ => exact p.elim
  | @ref n hn =>
    cases re with
    | @ref k hk =>
      cases op with
      | add =>
        have p : PostG S ι m H E (match m.get n with
          | some (.lst x) => (match m.get k with | some (.lst y) => newL (x ++ y) m | _ => .bad)
          | _ => .bad) _ := p
        cases e1 : m.get n with
        | none => rw [e1] at p; exact p.elim
        | some o1 =>
          rw [e1] at p
          cases o1 with
          | lst xs =>
            have p : PostG S ι m H E (match m.get k with | some (.lst y) => newL (xs ++ y) m | _ => .bad) _ := p
            cases e2 : m.get k with
            | none => rw [e2] at p; exact p.elim
            | some o2 =>
              rw [e2] at p
              cases o2 with
              | lst ys =>
                obtain ⟨vs, a1, b1⟩ := M.ob _ _ e1
                obtain ⟨us, a2, b2⟩ := M.ob _ _ e2
                obtain ⟨hz, q⟩ := PostG.newL M p (b1.app b2)
                rw [List.length_append, b1.len, b2.len] at hz
                refine op_cat pins s σ H _ _ v u Q I rx ry ⟨_, _, vs, us, rfl, rfl, a1, a2, le_line hz, fun t ht => ?_⟩
                obtain ⟨_, _, q1, q2, _⟩ := q t ht
                exact q1 _ q2
              | _ => exact p.elim
          | _ => exact p.elim
      | _ => exact p.elim
    | int k =>
      cases op with
      | mul =>
        have p : PostG S ι m H E (match m.get n with
          | some (.lst x) => (match Nat.ble (x.length * k.toNat) 16000000 && Nat.ble k.natAbs 16000000 with | true => newL (List.replicate k.toNat x).flatten m | false => .bad)
          | _ => .bad) _ := p
        cases e1 : m.get n with
        | none => rw [e1] at p; exact p.elim
        | some o1 =>
          rw [e1] at p
          cases o1 with
          | lst xs =>
            have p : PostG S ι m H E (match Nat.ble (xs.length * k.toNat) 16000000 && Nat.ble k.natAbs 16000000 with | true => newL (List.replicate k.toNat xs).flatten m | false => .bad) _ := p
            cases e2 : Nat.ble (xs.length * k.toNat) 16000000 && Nat.ble k.natAbs 16000000 with
            | false => rw [e2] at p; exact p.elim
            | true =>
              rw [e2] at p
              rw [Bool.and_eq_true] at e2
              have h1 := Nat.le_of_ble_eq_true e2.1
              have h2 := Nat.le_of_ble_eq_true e2.2
              obtain ⟨vs, a1, b1⟩ := M.ob _ _ e1
              obtain ⟨hz, q⟩ := PostG.newL M p (b1.rep k.toNat)
              refine op_rep pins s σ H _ _ v u Q I rx ry ⟨_, k, vs, rfl, rfl, a1, by omega, by omega, le_line (by rw [← b1.len]; exact h1), fun t ht => ?_⟩
              obtain ⟨_, _, q1, q2, _⟩ := q t ht
              exact q1 _ q2
          | _ => exact p.elim
      | _ => exact p.elim
    | _ => exact p.elim
  | _ => cases re <;> exact p.elim
end
end Ev

set_option Elab.async false
set_option linter.all false
set_option maxRecDepth 100000
set_option maxHeartbeats 4000000
namespace Ev
open PySem PySem.Spec PyProof.Rows L2

def COp.py : COp → CmpOp | .eq => .Eq | .ne => .NotEq | .lt => .Lt | .le => .LtE | .gt => .Gt | .ge => .GtE | .is => .Is | .isnot => .IsNot | .in_ => .In | .notin => .NotIn
section
variable {S : Sta} {ι : Nat → Addr} {nx : Nat} {m : Mem} {H : Hp} {X : Cx}
theorem flat_ok {d : D} {v : V} (r : RepV S ι nx H d v) (f : flatD d = true) : flatV v = true := by
  cases r <;> first | rfl | cases f
theorem flats_ok : ∀ {ds : List D} {vs : List V}, RepVs S ι nx H ds vs → ds.all flatD = true → vs.all flatV = true
  | _, _, .nil, _ => rfl
  | _, _, .cons h r, f => by
    rw [List.all_cons, Bool.and_eq_true] at f ⊢
    exact ⟨flat_ok h f.1, flats_ok r f.2⟩
theorem eqF_ok {d e : D} {v u : V} (r : RepV S ι nx H d v) (q : RepV S ι nx H e u) (f : flatD d = true) (g : flatD e = true) : eqF d e = eqV v u := by
  cases r <;> first | (cases f; done) | (cases q <;> first | (cases g; done) | rfl)
theorem any_ok {e : D} {u : V} (q : RepV S ι nx H e u) (g : flatD e = true) : ∀ {ds : List D} {vs : List V}, RepVs S ι nx H ds vs → ds.all flatD = true → (ds.any fun y => eqF y e) = inV u vs
  | _, _, .nil, _ => rfl
  | _, _, .cons h r, f => by
    rw [List.all_cons, Bool.and_eq_true] at f
    unfold inV
    rw [List.any_cons, List.any_cons, eqF_ok h q f.1 g, any_ok q g r f.2]
    rfl
theorem map_bl {o : Option Bool} {c : D} (h : o.map D.bl = some c) : ∃ b, o = some b ∧ c = .bl b := by
  cases o with
  | none => cases h
  | some b => exact ⟨b, rfl, (Option.some.inj h).symm⟩
theorem deq_ok (M : RepM S ι H m) {d e : D} {v u : V} {b : Bool} (h : deq m d e = some b) (r : RepV S ι m.nx H d v) (q : RepV S ι m.nx H e u) :
    ∃ p p', Dp S.K H v p ∧ Dp S.K H u p' ∧ SeqAt.shaped p = true ∧ SeqAt.shaped p' = true ∧ PyData.eqv p p' = b := by
  unfold deq at h
  cases e1 : toPy m 9 d with
  | none => rw [e1] at h; cases h
  | some p =>
    rw [e1] at h
    have h : (match toPy m 9 e with | some y => some (PyData.eqv p y) | none => none) = some b := h
    cases e2 : toPy m 9 e with
    | none => rw [e2] at h; cases h
    | some p' =>
      rw [e2] at h
      obtain ⟨a1, a2⟩ := toPy_sh M e1 r
      obtain ⟨b1, b2⟩ := toPy_sh M e2 q
      exact ⟨p, p', a1, b1, a2, b2, Option.some.inj h⟩
theorem eq_any (hK : X.K = S.K) (hu : X.A.units + 64 < cLine) (neg : Bool) : OpR X (compareOp (if neg then .NotEq else .Eq)) (fun x y H Q => ∃ ι m d e b, RepM S ι H m ∧ RepV S ι m.nx H d x ∧ RepV S ι m.nx H e y ∧ deq m d e = some b ∧ Q (.bl (if neg then !b else b)) H) := by
  rintro pins s σ H x y v u Q I rx ry ⟨ι, m, d, e, b, M, rd, re, h, q⟩
  obtain ⟨p, p', a1, a2, a3, a4, rfl⟩ := deq_ok M h rd re
  rw [← hK] at a1 a2
  cases neg with
  | false => exact op_eqD hu pins s σ H x y v u Q I rx ry ⟨p, p', a1, a2, a3, a4, q⟩
  | true => exact op_neD hu pins s σ H x y v u Q I rx ry ⟨p, p', a1, a2, a3, a4, q⟩
theorem deq_int (i j : Int) : deq m (.int i) (.int j) = some (decide (i = j)) := by
  show some (i == j) = _
  rw [Bool.beq_eq_decide_eq]
theorem cmp_eq (d e : D) : cmpF .eq d e m = deq m d e := by
  show (match d, e with | .int i, .int j => some (decide (i = j)) | _, _ => deq m d e) = _
  split
  · exact (deq_int _ _).symm
  · rfl
theorem cmp_ne (d e : D) : cmpF .ne d e m = (deq m d e).map (!·) := by
  show (match d, e with | .int i, .int j => some (!decide (i = j)) | _, _ => (deq m d e).map (!·)) = _
  split
  · rw [deq_int] <;> rfl
  · rfl
theorem isN_ok {d : D} {v : V} {b : Bool} (r : RepV S ι nx H d v) (h : isNoneD d = some b) : decide (v = .non) = b := by
  cases r <;> first | (cases h; rfl) | cases h
def cmpD (o : COp) (d e : D) : Option Bool := match d, e with | .int i, .int j => cmpI o i j | _, _ => none
theorem oc (hK : X.K = S.K) (hu : X.A.units + 64 < cLine) (op : COp) : OpR X (compareOp op.py) (r2M S (cmpM op)) := by
  rintro pins s σ H x y v u Q I rx ry ⟨ι, m, E, d, e, M, rd, re, p⟩
  obtain ⟨c, hc, q⟩ := PostG.opt M p
  obtain ⟨b, hb, rfl⟩ := map_bl hc
  have q := q _ (.bl b)
  have two : ∀ (o : COp), (∀ i j, OpR X (compareOp o.py) (fun x y H Q => x = .int i ∧ y = .int j ∧ ∃ b, cmpI o i j = some b ∧ Q (.bl b) H)) → cmpD o d e = some b → wpAny (model X.prog X.w) X.A (compareOp o.py v u) (EP X pins σ Q) X.xe s := fun o ho hb => by
    cases rd with
    | int i => cases re with
      | int j => exact ho i j pins s σ H _ _ v u Q I rx ry ⟨rfl, rfl, b, hb, q⟩
      | _ => cases hb
    | _ => cases re <;> cases hb
  cases op with
  | eq =>
    rw [cmp_eq] at hb
    exact eq_any hK hu false pins s σ H x y v u Q I rx ry ⟨ι, m, d, e, b, M, rd, re, hb, q⟩
  | ne =>
    rw [cmp_ne] at hb
    obtain ⟨b', h1, h2⟩ := Option.map_eq_some_iff.mp hb
    refine eq_any hK hu true pins s σ H x y v u Q I rx ry ⟨ι, m, d, e, b', M, rd, re, h1, ?_⟩
    show Q (.bl (!b')) H
    rw [h2]
    exact q
  | lt => exact two .lt (fun i j => fun pins s σ H x y v u Q I rx ry ⟨h1, h2, b, h3, q⟩ => op_lt pins s σ H x y v u Q I rx ry ⟨i, j, h1, h2, by cases h3; exact q⟩) hb
  | le => exact two .le (fun i j => fun pins s σ H x y v u Q I rx ry ⟨h1, h2, b, h3, q⟩ => op_le pins s σ H x y v u Q I rx ry ⟨i, j, h1, h2, by cases h3; exact q⟩) hb
  | gt => exact two .gt (fun i j => fun pins s σ H x y v u Q I rx ry ⟨h1, h2, b, h3, q⟩ => op_gt pins s σ H x y v u Q I rx ry ⟨i, j, h1, h2, by cases h3; exact q⟩) hb
  | ge => exact two .ge (fun i j => fun pins s σ H x y v u Q I rx ry ⟨h1, h2, b, h3, q⟩ => op_ge pins s σ H x y v u Q I rx ry ⟨i, j, h1, h2, by cases h3; exact q⟩) hb
  | is =>
    cases re with
    | non =>
      have hb := isN_ok rd hb
      exact op_isN pins s σ H x _ v u Q I rx ry ⟨rfl, by rw [hb]; exact q⟩
    | bl y => cases rd with
      | bl z =>
        cases hb
        exact op_is_bl pins s σ H _ _ v u Q I rx ry ⟨z, y, rfl, rfl, by rw [show decide (z = y) = (z == y) from (Bool.beq_eq_decide_eq z y).symm]; exact q⟩
      | _ => cases hb
    | _ => cases hb
  | isnot =>
    cases re with
    | non =>
      obtain ⟨b', h1, h2⟩ := Option.map_eq_some_iff.mp hb
      have h1 := isN_ok rd h1
      exact op_notN pins s σ H x _ v u Q I rx ry ⟨rfl, by rw [h1, h2]; exact q⟩
    | bl y => cases rd with
      | bl z =>
        cases hb
        exact op_isnot_bl pins s σ H _ _ v u Q I rx ry ⟨z, y, rfl, rfl, by rw [show decide (z = y) = (z == y) from (Bool.beq_eq_decide_eq z y).symm]; exact q⟩
      | _ => cases hb
    | _ => cases hb
  | in_ =>
    have hb : (match seqOf m e with | some ds => guardO (flatD d && ds.all flatD) (ds.any fun y => eqF y d) | none => none) = some b := hb
    cases e1 : seqOf m e with
    | none => rw [e1] at hb; cases hb
    | some ds =>
      rw [e1] at hb
      obtain ⟨h1, h2⟩ := guardO_some hb
      rw [Bool.and_eq_true] at h1
      obtain ⟨a, vs, rfl, hs, r⟩ := M.seq e1 re
      refine op_in_seq pins s σ H x _ v u Q I rx ry ⟨a, vs, rfl, by rw [hK]; exact hs, flat_ok rd h1.1, flats_ok r h1.2, ?_⟩
      show Q (.bl (inV x vs)) H
      rw [← any_ok rd h1.1 r h1.2, h2]
      exact q
  | notin =>
    have hb : (match seqOf m e with | some ds => guardO (flatD d && ds.all flatD) (!ds.any fun y => eqF y d) | none => none) = some b := hb
    cases e1 : seqOf m e with
    | none => rw [e1] at hb; cases hb
    | some ds =>
      rw [e1] at hb
      obtain ⟨h1, h2⟩ := guardO_some hb
      rw [Bool.and_eq_true] at h1
      obtain ⟨a, vs, rfl, hs, r⟩ := M.seq e1 re
      refine op_notIn_seq pins s σ H x _ v u Q I rx ry ⟨a, vs, rfl, by rw [hK]; exact hs, flat_ok rd h1.1, flats_ok r h1.2, ?_⟩
      show Q (.bl (!inV x vs)) H
      rw [← any_ok rd h1.1 r h1.2, h2]
      exact q
/-! ### items and slices -/
theorem ixr (hK : X.K = S.K) : IxR X (r2M S ixF) := by
  rintro value slice pins s σ H x y v u Q I rx ry ⟨ι, m, E, d, e, M, rd, re, p⟩ hs
  cases re with
  | int i =>
    have p : PostG S ι m H E (match seqOf m d with | some ds => opt (L2.atI ds i) m | none => .bad) _ := p
    cases e1 : seqOf m d with
    | none => rw [e1] at p; exact p.elim
    | some ds =>
      rw [e1] at p
      obtain ⟨c, hc, q⟩ := PostG.opt M p
      obtain ⟨a, vs, rfl, h, r⟩ := M.seq e1 rd
      obtain ⟨z, hz, rz⟩ := r.atI hc
      rcases h with h | h
      · exact ix_list value slice pins s σ H _ _ v u Q I rx ry ⟨a, vs, i, z, rfl, rfl, by rw [hK]; exact h, hz, q _ rz⟩ hs
      · exact ix_tup value slice pins s σ H _ _ v u Q I rx ry ⟨a, vs, i, z, rfl, rfl, by rw [hK]; exact h, hz, q _ rz⟩ hs
  | _ => exact p.elim
def rsM (S : Sta) (f : D → Option Int → Option Int → MV D) : V → Option Int → Option Int → Hp → VK → Prop := fun x lo hi H Q => ∃ ι m E d, RepM S ι H m ∧ RepV S ι m.nx H d x ∧ PostG S ι m H E (f d lo hi m) fun c ι' m' H' => ∀ v, RepV S ι' m'.nx H' c v → Q v H'
theorem cut_ok {ds : List D} {vs : List V} (r : RepVs S ι nx H ds vs) (lo hi : Option Int) : RepVs S ι nx H (cutD ds lo hi) (cutV vs lo hi) := by
  unfold cutD cutV
  rw [r.len]
  exact (r.drop _).take _
theorem sIx_whole {vs : List V} {lo hi : Option Int} (h : HT.sIx vs.length 0 lo = 0 ∧ HT.sIx vs.length vs.length hi = vs.length) : cutV vs lo hi = vs := by
  unfold cutV
  rw [h.1, h.2]
  simp
theorem RepVs.same {ds es : List D} {vs : List V} (r : RepVs S ι nx H ds vs) (q : RepVs S ι nx H es vs) (k : RepV S ι nx H (.tup es) v) : RepVs S ι nx H es vs := q
theorem slr (hK : X.K = S.K) : SlR X (rsM S sliceF) := by
  rintro pins s σ H x v vl vu lo hi sl Q I rx hs pl pu ⟨ι, m, E, d, M, rd, p⟩
  cases rd with
  | @tup a vs ds h r =>
    refine sl_tupA pins s σ H _ v vl vu lo hi sl Q I rx hs pl pu ⟨a, vs, rfl, by rw [hK]; exact h, fun hw => ?_, fun _ t ht => ?_⟩
    · have q : ∀ v, RepV S ι m.nx H (.tup (cutD ds lo hi)) v → Q v H := PostG.ok M p
      refine q _ (.tup h ?_)
      have := cut_ok r lo hi
      rw [sIx_whole hw] at this
      exact this
    · have T := Step.laid M ht (u := .tup (cutV vs lo hi))
      have q : ∀ v, RepV S ι m.nx (upd H t (.tup (cutV vs lo hi))) (.tup (cutD ds lo hi)) v → Q v (upd H t (.tup (cutV vs lo hi))) := PostG.ok T.mem (PostG.step T p)
      exact q _ (new_tup M ht (cut_ok r lo hi))
  | @ref n hn =>
    have p : PostG S ι m H E (match m.lst n with | some ds => newL (cutD ds lo hi) m | none => .bad) _ := p
    cases e1 : m.lst n with
    | none => rw [e1] at p; exact p.elim
    | some ds =>
      rw [e1] at p
      obtain ⟨vs, a, b⟩ := M.lstL e1
      obtain ⟨hz, q⟩ := PostG.newL M p (cut_ok b lo hi)
      refine sl_list pins s σ H _ v vl vu lo hi sl Q I rx hs pl pu ⟨_, vs, rfl, by rw [hK]; exact a, fun t ht => ?_⟩
      obtain ⟨_, _, q1, q2, _⟩ := q t ht
      exact q1 _ q2
  | _ => exact p.elim
/-! ### built-in functions -/
theorem RepVs.one {d : D} {xs : List V} (r : RepVs S ι nx H [d] xs) : ∃ x, xs = [x] ∧ RepV S ι nx H d x := by
  cases r with
  | cons h q => cases q; exact ⟨_, rfl, h⟩
theorem RepVs.two {d e : D} {xs : List V} (r : RepVs S ι nx H [d, e] xs) : ∃ x y, xs = [x, y] ∧ RepV S ι nx H d x ∧ RepV S ι nx H e y := by
  cases r with
  | cons h q => cases q with
    | cons g z => cases z; exact ⟨_, _, rfl, h, g⟩
theorem kit_all (u t : Ty) : kitB u.nm t.nm = some (isaT u t) := by cases u <;> cases t <;> decide +kernel
theorem bools_ok : ∀ {ds : List D} {bs : List Bool} {vs : List V}, boolsOf ds = some bs → RepVs S ι nx H ds vs → vs = bs.map V.bl
  | [], _, _, h, r => by cases h; cases r; rfl
  | d :: ds, bs, _, h, r => by
    cases r with
    | cons g r =>
      cases g with
      | bl b =>
        have h : (match boolsOf ds with | some bs => some (b :: bs) | none => none) = some bs := h
        cases e : boolsOf ds with
        | none => rw [e] at h; cases h
        | some bs' => rw [e] at h; cases h; rw [bools_ok e r] <;> rfl
      | _ => cases h
theorem ints_ok : ∀ {ds : List D} {bs : List Int} {vs : List V}, intsOf ds = some bs → RepVs S ι nx H ds vs → vs = bs.map V.int
  | [], _, _, h, r => by cases h; cases r; rfl
  | d :: ds, bs, _, h, r => by
    cases r with
    | cons g r =>
      cases g with
      | int b =>
        have h : (match intsOf ds with | some bs => some (b :: bs) | none => none) = some bs := h
        cases e : intsOf ds with
        | none => rw [e] at h; cases h
        | some bs' => rw [e] at h; cases h; rw [ints_ok e r] <;> rfl
      | _ => cases h
theorem tyOf_ok (M : RepM S ι H m) {d : D} {v : V} {t : Ty} (r : RepV S ι m.nx H d v) (h : tyOf m d = some t) : TyX S.K H v (.type t.nm) := by
  cases r with
  | non => cases h; exact .base .non
  | bl b => cases h; exact .base (.bl b)
  | int b => cases h; exact .base (.int b)
  | str b => cases h; exact .base (.str b)
  | fn k => cases h
  | ty k => cases h
  | tup h' q =>
    cases h
    rcases h' with (h' | ⟨o, h'⟩) | ⟨o, its, n, h1, h2, _⟩
    · exact .base (.tup h')
    · exact .fTuple h'
    · exact .kTuple h1 h2
  | @ref n hn =>
    have h : (match m.lst n with | some _ => some Ty.list | none => none) = some t := h
    cases e : m.lst n with
    | none => rw [e] at h; cases h
    | some ds =>
      rw [e] at h
      cases h
      obtain ⟨vs, a, _⟩ := M.lstL e
      rcases a with (a | ⟨o, a⟩) | ⟨o, its, n, h1, h2, _⟩
      · exact .base (.lst a)
      · exact .base (.frz a)
      · exact .kList h1 h2
theorem repr_ok (hg : X.A.guards = some []) (hu : X.A.units + 100 < cLine) : CallR X (.builtin "repr") (fun xs H Q => ∃ x p, xs = [x] ∧ Dp X.K H x p ∧ SeqAt.shaped p = true ∧ p.showable = true ∧ p.shown.length ≤ sizeLine ∧ Q (.str p.shown) H) := by
  rintro pins s σ H xs us Q I r ⟨x, p, rfl, hp, sh, hs, hz, q⟩
  obtain ⟨u, rfl, rx⟩ := vals1 r
  have cl := SeqAt.canLay_of_shaped sh
  have dp := SeqAt.depth_of_shaped sh
  cases hp with
  | non => cases rx; exact PySem.P.repr_of_none ⟨.str _, H, I.tok _, ⟨_, rfl⟩, q⟩
  | bl b => cases rx; exact PySem.P.repr_of_bool ⟨.str _, H, I.tok _, ⟨_, rfl⟩, q⟩
  | int i =>
    obtain ⟨t, rfl⟩ := rx
    exact PySem.P.repr_of_int (of_decide_eq_true (by simpa [PyData.showable] using hs)) ⟨.str _, H, I.tok _, ⟨_, rfl⟩, q⟩
  | str z =>
    obtain ⟨t, rfl⟩ := rx
    exact PySem.P.repr_of_str ⟨.str _, H, I.tok _, ⟨_, rfl⟩, q⟩ hz
  | lst a b =>
    cases rx
    obtain ⟨as, rd⟩ := Dp.reads I _ _ _ (.lst a b) rfl
    exact repr_of_reads' rd hs (PyData.noDict_hsm (PyData.hasDict_of_canLay _ cl)) hg (by omega) (fun b o e => e) (fun h' u tk k => ⟨.str _, H, I.kept k, ⟨_, rfl⟩, q⟩) hz
  | tup a b =>
    cases rx
    obtain ⟨as, rd⟩ := Dp.reads I _ _ _ (.tup a b) rfl
    exact repr_of_reads' rd hs (PyData.noDict_hsm (PyData.hasDict_of_canLay _ cl)) hg (by omega) (fun b o e => e) (fun h' u tk k => ⟨.str _, H, I.kept k, ⟨_, rfl⟩, q⟩) hz
/-- the object of a built-in function -/
def Blt.obj : Blt → Value
  | .len => .builtin "len" | .abs => .builtin "abs" | .max2 => .builtin "max" | .min2 => .builtin "min" | .int => .type "int" | .isinst => .builtin "isinstance" | .all => .builtin "all" | .any => .builtin "any"
  | .list => .type "list" | .tuple => .type "tuple" | .sum => .builtin "sum" | .repr => .builtin "repr"
theorem one_ok {β : Type} {E : XK} {f : D → Out β} {g : β → (Nat → Addr) → Mem → Hp → Prop} {ds : List D} {xs : List V} (r : RepVs S ι m.nx H ds xs) (p : PostG S ι m H E (one ds f) g) : ∃ d x, xs = [x] ∧ RepV S ι m.nx H d x ∧ PostG S ι m H E (f d) g := by
  match ds, r, p with
  | [d], r, p => obtain ⟨x, e, q⟩ := r.one; exact ⟨d, x, e, q, p⟩
  | [], _, p => exact False.elim p
  | _ :: _ :: _, _, p => exact False.elim p
theorem two_ok {β : Type} {E : XK} {f : D → D → Out β} {g : β → (Nat → Addr) → Mem → Hp → Prop} {ds : List D} {xs : List V} (r : RepVs S ι m.nx H ds xs) (p : PostG S ι m H E (two ds f) g) : ∃ d e x y, xs = [x, y] ∧ RepV S ι m.nx H d x ∧ RepV S ι m.nx H e y ∧ PostG S ι m H E (f d e) g := by
  match ds, r, p with
  | [d, e], r, p => obtain ⟨x, y, z, q, w⟩ := r.two; exact ⟨d, e, x, y, z, q, w, p⟩
  | [], _, p => exact False.elim p
  | [_], _, p => exact False.elim p
  | _ :: _ :: _ :: _, _, p => exact False.elim p
theorem int_ok {β : Type} {E : XK} {f : Int → Out β} {g : β → (Nat → Addr) → Mem → Hp → Prop} {d : D} {x : V} (r : RepV S ι m.nx H d x) (p : PostG S ι m H E (onInt d f) g) : ∃ i, x = .int i ∧ PostG S ι m H E (f i) g := by
  cases r with
  | int i => exact ⟨i, rfl, p⟩
  | _ => exact False.elim p
theorem seq_ok {β : Type} {E : XK} {f : List D → Out β} {g : β → (Nat → Addr) → Mem → Hp → Prop} {d : D} {x : V} (M : RepM S ι H m) (r : RepV S ι m.nx H d x) (p : PostG S ι m H E (onSeq m d f) g) : ∃ ds a vs, x = .ref a ∧ (SqL S.K H a vs ∨ SqT S.K H a vs) ∧ RepVs S ι m.nx H ds vs ∧ PostG S ι m H E (f ds) g := by
  unfold onSeq at p
  cases e1 : seqOf m d with
  | none => rw [e1] at p; exact False.elim p
  | some ds => rw [e1] at p; obtain ⟨a, vs, e, b, c⟩ := M.seq e1 r; exact ⟨ds, a, vs, e, b, c, p⟩
theorem lst_ok {β : Type} {E : XK} {f : List D → Out β} {g : β → (Nat → Addr) → Mem → Hp → Prop} {d : D} {x : V} (M : RepM S ι H m) (r : RepV S ι m.nx H d x) (p : PostG S ι m H E (onLst m d f) g) : ∃ ds a vs, x = .ref a ∧ SqL S.K H a vs ∧ RepVs S ι m.nx H ds vs ∧ PostG S ι m H E (f ds) g := by
  cases r with
  | @ref n hn =>
    have p : PostG S ι m H E (match m.lst n with | some xs => f xs | none => .bad) g := p
    cases e1 : m.lst n with
    | none => rw [e1] at p; exact False.elim p
    | some ds => rw [e1] at p; obtain ⟨vs, b, c⟩ := M.lstL e1; exact ⟨ds, _, vs, rfl, b, c, p⟩
  | _ => exact False.elim p
theorem some_ok {β γ : Type} {E : XK} {f : γ → Out β} {g : β → (Nat → Addr) → Mem → Hp → Prop} {o : Option γ} (p : PostG S ι m H E (onSome o f) g) : ∃ x, o = some x ∧ PostG S ι m H E (f x) g := by
  cases o with
  | none => exact False.elim p
  | some x => exact ⟨x, rfl, p⟩
theorem cbl (hK : X.K = S.K) (hc : X.calm = true) (hg : X.A.guards = some []) (hu : X.A.units + 100 < cLine) (b : Blt) : CallR X b.obj (rcM S (bltF b)) := by
  rintro pins s σ H xs us Q I r ⟨ι, m, E, ds, M, rv, p⟩
  cases b with
  | len =>
    obtain ⟨d, x, rfl, rd, p⟩ := one_ok rv p
    by_cases hs : ∃ z, d = .str z
    · obtain ⟨z, rfl⟩ := hs
      cases rd
      obtain ⟨c, hc', q⟩ := PostG.opt M p
      obtain ⟨h1, rfl⟩ := guardO_some hc'
      exact call_len pins s σ H _ us Q I r ⟨_, _, rfl, ⟨le_line (Nat.le_of_ble_eq_true h1), rfl⟩, q _ (.int _)⟩
    · have p : PostG S ι m H E (onSeq m d fun xs => .ok (D.int xs.length) m) fun c ι' m' H' => ∀ v, RepV S ι' m'.nx H' c v → Q v H' := by
        cases d <;> first | exact p | exact absurd ⟨_, rfl⟩ hs
      obtain ⟨es, a, vs, rfl, h1, h2, p⟩ := seq_ok M rd p
      refine call_len_seq pins s σ H _ us Q I r ⟨a, vs, rfl, by rw [hK]; exact h1, ?_⟩
      rw [← h2.len]
      exact PostG.ok M p _ (.int _)
  | abs =>
    obtain ⟨d, x, rfl, rd, p⟩ := one_ok rv p
    obtain ⟨i, rfl, p⟩ := int_ok rd p
    exact call_abs pins s σ H _ us Q I r ⟨i, rfl, PostG.ok M p _ (.int _)⟩
  | max2 =>
    obtain ⟨d, e, x, y, rfl, rd, re, p⟩ := two_ok rv p
    obtain ⟨i, rfl, p⟩ := int_ok rd p
    obtain ⟨j, rfl, p⟩ := int_ok re p
    exact call_max2 hc pins s σ H _ us Q I r ⟨i, j, rfl, PostG.ok M p _ (.int _)⟩
  | min2 =>
    obtain ⟨d, e, x, y, rfl, rd, re, p⟩ := two_ok rv p
    obtain ⟨i, rfl, p⟩ := int_ok rd p
    obtain ⟨j, rfl, p⟩ := int_ok re p
    exact call_min2 hc pins s σ H _ us Q I r ⟨i, j, rfl, PostG.ok M p _ (.int _)⟩
  | int =>
    obtain ⟨d, x, rfl, rd, p⟩ := one_ok rv p
    cases rd with
    | int i => exact call_int1 pins s σ H _ us Q I r (.inl ⟨i, rfl, PostG.ok M p _ (.int _)⟩)
    | bl i => exact call_int1 pins s σ H _ us Q I r (.inr ⟨i, rfl, PostG.ok M p _ (.int _)⟩)
    | _ => exact False.elim p
  | isinst =>
    obtain ⟨d, e, x, y, rfl, rd, re, p⟩ := two_ok rv p
    cases re with
    | ty t =>
      obtain ⟨u, hu', p⟩ := some_ok p
      exact call_isi pins s σ H _ us Q I r ⟨x, _, _, _, _, rfl, .ty _, by rw [hK]; exact tyOf_ok M rd hu', kit_ty (kit_all u t), PostG.ok M p _ (.bl _)⟩
    | _ => exact False.elim p
  | all =>
    obtain ⟨d, x, rfl, rd, p⟩ := one_ok rv p
    obtain ⟨es, a, vs, rfl, h1, h2, p⟩ := lst_ok M rd p
    obtain ⟨bs, hb, p⟩ := some_ok p
    exact cr_all hc pins s σ H _ us Q I r ⟨_, bs, rfl, by rw [hK, ← bools_ok hb h2]; exact h1, PostG.ok M p _ (.bl _)⟩
  | any =>
    obtain ⟨d, x, rfl, rd, p⟩ := one_ok rv p
    obtain ⟨es, a, vs, rfl, h1, h2, p⟩ := lst_ok M rd p
    obtain ⟨bs, hb, p⟩ := some_ok p
    exact cr_any hc pins s σ H _ us Q I r ⟨_, bs, rfl, by rw [hK, ← bools_ok hb h2]; exact h1, PostG.ok M p _ (.bl _)⟩
  | sum =>
    obtain ⟨d, x, rfl, rd, p⟩ := one_ok rv p
    obtain ⟨es, a, vs, rfl, h1, h2, p⟩ := lst_ok M rd p
    obtain ⟨bs, hb, p⟩ := some_ok p
    exact cr_sum hc pins s σ H _ us Q I r ⟨_, bs, rfl, by rw [hK, ← ints_ok hb h2]; exact h1, PostG.ok M p _ (.int _)⟩
  | list =>
    obtain ⟨d, x, rfl, rd, p⟩ := one_ok rv p
    obtain ⟨es, a, vs, rfl, h1, h2, p⟩ := seq_ok M rd p
    obtain ⟨hz, q⟩ := PostG.newL M p h2
    refine call_list_of pins s σ H _ us Q I r ⟨a, vs, rfl, by rw [hK]; exact h1, fun t ht => ?_⟩
    obtain ⟨_, _, q1, q2, _⟩ := q t ht
    exact q1 _ q2
  | tuple =>
    obtain ⟨d, x, rfl, rd, p⟩ := one_ok rv p
    obtain ⟨es, a, vs, rfl, h1, h2, p⟩ := seq_ok M rd p
    refine call_tuple_of pins s σ H _ us Q I r ⟨a, vs, rfl, ?_⟩
    rcases h1 with h1 | h1
    · refine .inl ⟨by rw [hK]; exact h1, fun t ht => ?_⟩
      have T := Step.laid M ht (u := .tup vs)
      exact PostG.ok T.mem (PostG.step T p) _ (new_tup M ht h2)
    · exact .inr ⟨by rw [hK]; exact h1, PostG.ok M p _ (.tup h1 h2)⟩
  | repr =>
    obtain ⟨d, x, rfl, rd, p⟩ := one_ok rv p
    obtain ⟨z, hz, p⟩ := some_ok p
    obtain ⟨c, hc', q⟩ := PostG.opt M p
    obtain ⟨e2, rfl⟩ := guardO_some hc'
    rw [Bool.and_eq_true] at e2
    obtain ⟨h1, h2⟩ := toPy_sh M hz rd
    exact repr_ok hg hu pins s σ H _ us Q I r ⟨x, z, rfl, by rw [hK]; exact h1, h2, e2.1, le_line (Nat.le_of_ble_eq_true e2.2), q _ (.str _)⟩
end
end Ev

set_option Elab.async false
set_option linter.all false
set_option maxRecDepth 100000
set_option maxHeartbeats 4000000
namespace Ev
open PySem PySem.Spec PyProof.Rows L2

/-! ## from the text to the language -/
def ixOf (x : Str) : List Str → Nat → Option Nat
  | [], _ => none
  | y :: r, n => match decide (x = y) with | true => some n | false => ixOf x r (n + 1)
theorem ixOf_ok {x : Str} : ∀ {N : List Str} {n i : Nat}, ixOf x N n = some i → ∃ j, i = n + j ∧ N[j]? = some x
  | [], _, _, h => by cases h
  | y :: r, n, i, h => by
    unfold ixOf at h
    by_cases e : x = y
    · rw [decide_eq_true e] at h
      cases h
      exact ⟨0, rfl, by rw [e] <;> rfl⟩
    · rw [decide_eq_false e] at h
      obtain ⟨j, h1, h2⟩ := ixOf_ok h
      exact ⟨j + 1, by omega, h2⟩
theorem ixOf0 {x : Str} {N : List Str} {i : Nat} (h : ixOf x N 0 = some i) : N[i]? = some x := by
  obtain ⟨j, h1, h2⟩ := ixOf_ok h
  rw [h1, Nat.zero_add]
  exact h2
def nodun (x : Str) : Bool := !(x == ("__debug__" : Str)) && !(x == ("__classdict__" : Str)) && !decide (x = ("__name__" : Str))
def visB (sc : Scope) (x : Str) : Bool := match sc.names.lookup x with
  | some .local => true | some .cell => true | some .free => true
  | _ => false
def glB (sc : Scope) (x : Str) : Bool := match sc.names.lookup x with
  | some .globalImplicit => true
  | _ => false
theorem vis_ok {sc : Scope} {x : Str} (h : visB sc x = true) : Vis sc x := by
  unfold visB at h
  split at h
  · rename_i e
    exact .inl e
  · rename_i e
    exact .inr (.inl e)
  · rename_i e
    exact .inr (.inr e)
  · cases h
theorem glB_ok {X : Cx} {x : Str} (h : glB X.env.scope x = true) : Gl X x := by
  unfold glB at h
  split at h
  · rename_i e
    exact e
  · cases h
def Blt.nm : Blt → Str
  | .len => "len" | .abs => "abs" | .max2 => "max" | .min2 => "min" | .int => "int" | .isinst => "isinstance" | .all => "all" | .any => "any"
  | .list => "list" | .tuple => "tuple" | .sum => "sum" | .repr => "repr"
def Blt.ar : Blt → Nat
  | .max2 | .min2 | .isinst => 2
  | _ => 1
def bltAll : List Blt := [.len, .abs, .max2, .min2, .int, .isinst, .all, .any, .list, .tuple, .sum, .repr]
def bltOf (f : Str) (k : Nat) : Option Blt := bltAll.find? fun b => decide (f = b.nm) && Nat.beq b.ar k
theorem bltOf_ok {f : Str} {k : Nat} {b : Blt} (h : bltOf f k = some b) : f = b.nm := by
  have := List.find?_some h
  rw [Bool.and_eq_true, decide_eq_true_eq] at this
  exact this.1
def tyAll : List Ty := [.int, .bool, .str, .tuple, .list, .dict]
def tyOfN (f : Str) : Option Ty := tyAll.find? fun t => decide (f = Str.ofString t.nm)
def opOf : Operator → Option BOp
  | .Add => some .add | .Sub => some .sub | .Mult => some .mul | .FloorDiv => some .fdiv | .Mod => some .mod | .Pow => some .pow
  | _ => none
theorem opOf_ok {o : Operator} {b : BOp} (h : opOf o = some b) : o = b.py := by
  cases o <;> cases h <;> rfl
def copOf : CmpOp → COp
  | .Eq => .eq | .NotEq => .ne | .Lt => .lt | .LtE => .le | .Gt => .gt | .GtE => .ge | .Is => .is | .IsNot => .isnot | .In => .in_ | .NotIn => .notin
theorem copOf_ok (o : CmpOp) : o = (copOf o).py := by cases o <;> rfl
def constD : Const → Option D
  | .none => some .non | .bool b => some (.bl b) | .int i => some (.int i) | .str s => some (.str s)
  | _ => none
def onB {α : Type} (b : Bool) (o : Option α) : Option α := match b with
  | true => o
  | false => none
theorem onB_some {α : Type} {b : Bool} {o : Option α} {x : α} (h : onB b o = some x) : b = true ∧ o = some x := by
  cases b with
  | true => exact ⟨rfl, h⟩
  | false => cases h
def trL (tr : Expr → Option E) : List Expr → Option E
  | [] => some .nil
  | e :: es => onB (plainX e) ((tr e).bind fun a => (trL tr es).bind fun b => some (.cons a b))
/-- and, or of several -/
def trB (tr : Expr → Option E) (f : E → E → E) : List Expr → Option E
  | [] => none
  | e :: es => (tr e).bind fun a => match es with
    | [] => some a
    | _ :: _ => (trB tr f es).bind fun b => some (f a b)
def trTs (tt : Expr → Option E) : List Expr → Option E
  | [] => some .tnil
  | e :: es => onB (plainX e) ((tt e).bind fun a => (trTs tt es).bind fun b => some (.tcons a b))
def isSlice : Expr → Bool
  | .Slice .. => true
  | _ => false
def isSet : Expr → Bool
  | .Set .. => true
  | _ => false
def trT (tr : Expr → Option E) (fb : Str → Bool) (N : List Str) (sc : Scope) : Nat → Expr → Option E
  | 0, _ => none
  | n + 1, e => match e with
    | .Name x _ => (match sc.names.lookup x with
      | some .local => (ixOf x N 0).bind fun i => some (.tnm i)
      | some .cell => onB (fb x) ((ixOf x N 0).bind fun i => some (.tnm i))
      | _ => none)
    | .Tuple es _ _ => (trTs (trT tr fb N sc n) es).bind fun t => some (.ttup t)
    | .Subscript o i _ => onB (!isSlice i) ((tr o).bind fun a => (tr i).bind fun b => some (.tsub a b))
    | _ => none
/-- the slots of a target -/
def E.slots : E → List Nat
  | .tnm i => [i]
  | .tcons t ts => t.slots ++ ts.slots
  | .ttup t => t.slots
  | _ => []
def E.val : E → Bool
  | .rng1 _ | .rng2 _ _ | .tnm _ | .tnil | .tcons _ _ | .ttup _ | .tsub _ _ => false
  | _ => true
def trV (tr : Expr → Option E) (e : Expr) : Option E := onB (!isSet e) ((tr e).bind fun t => onB t.val (some t))
def trI (tr : Expr → Option E) (G : Glo) (sc : Scope) (e : Expr) : Option E := match e with
  | .Call (.Name f _) as [] _ => (match decide (f = ("range" : Str)) with
    | true => onB (glB sc "range" && G.b "range") (match as with
      | [a] => onB (plainX a) ((tr a).bind fun x => some (.rng1 x))
      | [a, b] => onB (plainX a && plainX b) ((tr a).bind fun x => (tr b).bind fun y => some (.rng2 x y))
      | _ => none)
    | false => trV tr e)
  | e => trV tr e
def ownOf (N : List Str) : List (Str × NameKind) → List (Str × Nat)
  | [] => []
  | (x, k) :: r => match k with
    | .local => (match ixOf x N 0 with | some i => (x, i) :: ownOf N r | none => ownOf N r)
    | .cell => (match ixOf x N 0 with | some i => (x, i) :: ownOf N r | none => ownOf N r)
    | _ => ownOf N r
def trName (G : Glo) (N : List Str) (sc : Scope) (x : Str) : Option E := onB (nodun x) (match visB sc x with
  | true => (ixOf x N 0).bind fun i => some (.var i)
  | false => onB (glB sc x) (match G.g x with
    | some d => some (.const d)
    | none => onB (G.b x) ((tyOfN x).bind fun t => some (.const (.ty t)))))
def trCall (G : Glo) (N : List Str) (sc : Scope) (x : Str) (k : Nat) (a : E) : Option E := onB (nodun x) (match visB sc x with
  | true => (ixOf x N 0).bind fun i => some (.callv (.var i) a)
  | false => onB (glB sc x) (match G.g x with
    | some d => (match d with | .fn k => some (.call k a) | _ => none)
    | none => onB (G.b x && Nat.blt 0 k) ((bltOf x k).bind fun b => some (.blt b a))))
def trP (tr : Expr → Option E) : Option Expr → Option E
  | none => some .no
  | some l => (tr l).bind fun y => onB (!y.isNo) (some y)
def trE (G : Glo) (N : List Str) : Nat → Scope → Expr → Option E
  | 0, _, _ => none
  | n + 1, sc, e => match e with
    | .Constant c _ _ => (constD c).bind fun d => some (.const d)
    | .Name x _ => trName G N sc x
    | .Tuple es _ _ => onB (Nat.ble es.length 1000) ((trL (trE G N n sc) es).bind fun a => some (.tup a))
    | .List es _ => (trL (trE G N n sc) es).bind fun a => some (.lst a)
    | .BinOp a op b _ => (opOf op).bind fun o => (trE G N n sc a).bind fun x => (trE G N n sc b).bind fun y => some (.bin o x y)
    | .UnaryOp op a _ => (match op with
      | .USub => (trE G N n sc a).bind fun x => some (.neg x)
      | .Not => (trE G N n sc a).bind fun x => some (.bnot x)
      | _ => none)
    | .Compare a ops bs _ => (match ops, bs with
      | [o], [b] => onB (!isSet b) ((trE G N n sc a).bind fun x => (trE G N n sc b).bind fun y => some (.cmp (copOf o) x y))
      | [o, o'], [b, c] => onB (!isSet c) ((trE G N n sc a).bind fun x => (trE G N n sc b).bind fun y => (trE G N n sc c).bind fun z => some (.chain (copOf o) (copOf o') x y z))
      | _, _ => none)
    | .BoolOp op vs _ => (match op with
      | .And => trB (trE G N n sc) .band vs
      | .Or => trB (trE G N n sc) .bor vs)
    | .IfExp c a b _ => (trE G N n sc c).bind fun x => (trE G N n sc a).bind fun y => (trE G N n sc b).bind fun z => some (.ite x y z)
    | .Call f as kws _ => (match f, kws with
      | .Name x _, [] => (trL (trE G N n sc) as).bind fun a => trCall G N sc x as.length a
      | _, _ => none)
    | .Subscript a i _ => (trE G N n sc a).bind fun x => (match i with
      | .Slice lo hi none _ => (trP (trE G N n sc) lo).bind fun y => (trP (trE G N n sc) hi).bind fun z => some (.slice x y z)
      | i => onB (!isSlice i) ((trE G N n sc i).bind fun y => some (.ix x y)))
    | .ListComp elt gens scope _ => (match gens with
      | [⟨tg, iter, ifs, 0⟩] => onB (blkC N sc scope (ownOf N scope.names)) ((trI (trE G N n sc) G sc iter).bind fun it =>
          (trT (trE G N n (relS scope sc)) (fun x => scope.names.lookup x == some .cell) N (relS scope sc) 8 tg).bind fun t =>
          onB (t.slots.all fun i => ((ownOf N scope.names).map (·.2)).contains i) ((trE G N n (relS scope sc) elt).bind fun x => (match ifs with
            | [] => some (.comp ((ownOf N scope.names).map (·.2)) t it .yes x)
            | [c] => (trE G N n (relS scope sc) c).bind fun z => some (.comp ((ownOf N scope.names).map (·.2)) t it z x)
            | _ => none)))
      | _ => none)
    | _ => none
end Ev

set_option Elab.async false
set_option linter.all false
set_option maxRecDepth 100000
set_option maxHeartbeats 4000000
namespace Ev
open PySem PySem.Spec PyProof.Rows L2

/-! ## the rules of the parts -/
section
variable {S : Sta} {G : Glo} {F : Nat → List D → MV D} {n : Nat} {X : Cx} {W : WX} {a b c : Expr} {es : List Expr} {fa fb fc : Rho → MV D} {pos : Pos}
theorem GC.units (g : GC S G F n X W) : X.A.units + 100 < cLine := by have := g.room.un; omega
/-- an expression of a steady value -/
theorem s_const {e : Expr} {v : V} {d : D} (h : PE X e (tC v)) (r : ∀ ι nx H, RepV S ι nx H d v) : PE X e (evE S W fun _ => okk d) :=
  peI h fun σ H Q ⟨ι, ρ, m, rs, M, p⟩ => PostG.ok M p v (r _ _ _)
theorem s_var {i : Nat} {x : Str} (g : GC S G F n X W) (hN : X.N[i]? = some x) (hv : Vis X.env.scope x) (hd : (x == ("__debug__" : Str)) = false) (hcd : (x == ("__classdict__" : Str)) = false) : PE X (.Name x pos) (evE S W fun ρ => opt (getR ρ i)) :=
  peI (pe_var hN hv hd hcd) fun σ H Q ⟨ι, ρ, m, rs, M, p⟩ => by
    obtain ⟨d, e, q⟩ := PostG.opt M p
    obtain ⟨v, e1, r⟩ := rs.at_ i d e
    exact ⟨v, e1, q v r⟩
/-- lists of parts -/
def TupLen (f : Rho → MV D) (k : Nat) : Prop := ∀ ρ m d m', f ρ m = .ok d m' → ∃ ds, d = .tup ds ∧ ds.length = k
theorem s_nil : PA X [] (evA S W fun _ => okk (.tup [])) := paI pa_nil fun σ H Q ⟨ι, ρ, m, rs, M, p⟩ => by
  obtain ⟨ds, e, q⟩ := PostG.ok M p
  cases e
  exact q [] .nil
theorem s_cons (ha : PE X a (evE S W fa)) (hb : PA X es (evA S W fb)) (hp : plainX a = true) : PA X (a :: es) (evA S W (consM fa fb)) :=
  paI (pa_cons ha hb (star1 hp es X.env)) fun σ H Q ⟨ι, ρ, m, rs, M, p⟩ => by
    refine evE_then rs M p fun d v ι1 m1 H1 rs1 M1 T1 rv p1 => ⟨ι1, ρ, m1, rs1, M1, p1.bind.imp fun e ι2 m2 H2 T2 ⟨M2, _, q⟩ => ?_⟩
    match e, q with
    | .tup ys, q =>
      obtain ⟨ds, e, q⟩ := PostG.ok M2 q
      cases e
      exact ⟨ys, rfl, fun vs r => q (v :: vs) (.cons (T2.repV M1 rv) r)⟩
    | .non, q => exact False.elim q
    | .bl _, q => exact False.elim q
    | .int _, q => exact False.elim q
    | .str _, q => exact False.elim q
    | .ref _, q => exact False.elim q
    | .fn _, q => exact False.elim q
    | .ty _, q => exact False.elim q
theorem bind_ok {α β : Type} {o : Out α} {f : α → MV β} {b : β} {m : Mem} (h : o.bind f = .ok b m) : ∃ a m1, o = .ok a m1 ∧ f a m1 = .ok b m := by
  cases o with
  | ok a m1 => exact ⟨a, m1, rfl, h⟩
  | exc x m1 => cases h
  | bad => cases h
theorem tupLen_cons {k : Nat} (h : TupLen fb k) : TupLen (consM fa fb) (k + 1) := fun ρ m d m' e => by
  obtain ⟨x, m1, _, e⟩ := bind_ok e
  obtain ⟨y, m2, e1, e⟩ := bind_ok e
  obtain ⟨ds, rfl, hk⟩ := h _ _ _ _ e1
  cases e
  exact ⟨_, rfl, by rw [List.length_cons, hk]⟩
theorem tupLen_nil : TupLen (fun _ => okk (.tup [])) 0 := fun ρ m d m' e => by cases e; exact ⟨[], rfl, rfl⟩
/-- from a value's reading to a list's -/
theorem evE_evA {k : Nat} {f : Rho → MV D} (hl : TupLen f k) {ι : Nat → Addr} {ρ : Rho} {m : Mem} {σ : L2.St} {H : Hp} {Q : D → (Nat → Addr) → Mem → Hp → Prop} {R : List V → Hp → Prop} (rs : RepS S ι m.nx H ρ σ) (M : RepM S ι H m)
    {β : Type} {g : D → MV β} {Q : β → (Nat → Addr) → Mem → Hp → Prop} (p : PostG S ι m H (fun c d H' => W c d σ H') ((f ρ m).bind g) Q)
    (h : ∀ ds vs ι1 m1 H1, ds.length = k → RepS S ι1 m1.nx H1 ρ σ → RepM S ι1 H1 m1 → Step S ι m H ι1 m1 H1 → RepVs S ι1 m1.nx H1 ds vs → PostG S ι1 m1 H1 (fun c d H' => W c d σ H') (g (.tup ds) m1) Q → R vs H1) : evA S W f σ H R := by
  refine ⟨ι, ρ, m, rs, M, ?_⟩
  cases e : f ρ m with
  | ok d m' =>
    rw [e] at p
    obtain ⟨ds, rfl, hk⟩ := hl _ _ _ _ e
    exact fun ι1 H1 T => ⟨ds, rfl, fun vs r => h ds vs ι1 m' H1 hk (T.repS M rs) T.mem T r (PostG.step T p)⟩
  | exc x m' => rw [e] at p; exact p
  | bad => rw [e] at p; exact p
theorem bind_okk {α : Type} (o : Out α) : o.bind (fun a m => .ok a m) = o := by cases o <;> rfl
theorem s_tup {x1 : Nat} (ha : PA X es (evA S W fa)) (hl : TupLen fa es.length) (hz : es.length ≤ 1000) : PE X (.Tuple es x1 pos) (evE S W fa) :=
  peI (pe_tup ha) fun σ H Q ⟨ι, ρ, m, rs, M, p⟩ => by
    rw [← bind_okk (fa ρ m)] at p
    refine evE_evA (Q := fun _ _ _ _ => True) hl rs M p fun ds vs ι1 m1 H1 hk rs1 M1 T1 r q => ⟨by rw [← r.len, hk]; exact le_line (by omega), fun t ht => ?_⟩
    have T := Step.laid M1 ht (u := .tup vs)
    exact PostG.ok T.mem (PostG.step T q) _ (new_tup M1 ht r)
theorem s_lst (ha : PA X es (evA S W fa)) (hl : TupLen fa es.length) : PE X (.List es pos) (evE S W (lstM fa)) :=
  peI (pe_lst ha) fun σ H Q ⟨ι, ρ, m, rs, M, p⟩ => by
    refine evE_evA (Q := fun _ _ _ _ => True) hl rs M p fun ds vs ι1 m1 H1 hk rs1 M1 T1 r q => ?_
    obtain ⟨hz, q⟩ := PostG.newL M1 q r
    refine ⟨by rw [← r.len]; exact le_line hz, fun t ht => ?_⟩
    obtain ⟨_, _, q1, q2, _⟩ := q t ht
    exact q1 _ q2
theorem s_two {f : D → D → MV D} {ta : R2} {e : Expr} (h : PE X e (tOp (r2M S f) (evE S W fa) (evE S W fb))) : PE X e (evE S W (bin2 f fa fb)) :=
  peI h fun σ H Q ⟨ι, ρ, m, rs, M, p⟩ => evE_then rs M p fun d v ι1 m1 H1 rs1 M1 T1 rv p1 => evE_then rs1 M1 p1 fun e u ι2 m2 H2 rs2 M2 T2 ru p2 => ⟨ι2, m2, _, d, e, M2, T2.repV M1 rv, ru, p2⟩
theorem s_bin (g : GC S G F n X W) (op : BOp) (ha : PE X a (evE S W fa)) (hb : PE X b (evE S W fb)) : PE X (.BinOp a op.py b pos) (evE S W (bin2 (binF op) fa fb)) :=
  s_two (ta := fun _ _ _ _ => True) (pe_op (ob g.hK op) ha hb)
theorem mark_of {op : CmpOp} {e : Expr} (h : ∀ es k p, e ≠ .Set es k p) : behindInMarks op e = false := by
  cases e <;> first | rfl | exact absurd rfl (h _ _ _)
theorem s_cmp (g : GC S G F n X W) (op : COp) (ha : PE X a (evE S W fa)) (hb : PE X b (evE S W fb)) (hm : ∀ es k p, b ≠ .Set es k p) : PE X (.Compare a [op.py] [b] pos) (evE S W (bin2 (cmpM op) fa fb)) :=
  s_two (ta := fun _ _ _ _ => True) (pe_cmpR (oc g.hK (by have := g.units; omega) op) ha hb (mark_of hm))
theorem s_neg (ha : PE X a (evE S W fa)) : PE X (.UnaryOp .USub a pos) (evE S W (negM fa)) :=
  peI (pe_un un_neg ha) fun σ H Q ⟨ι, ρ, m, rs, M, p⟩ => evE_then rs M p fun d v ι1 m1 H1 rs1 M1 T1 rv p1 => by
    cases rv with
    | int i => exact ⟨i, rfl, PostG.ok M1 p1 _ (.int _)⟩
    | _ => exact False.elim p1
/-! ### tests -/
/-- a value's reading gives a bool -/
theorem evE_bool {R : Bool → Hp → Prop} {σ : L2.St} {H : Hp} (h : evB S W (testM fa) σ H R) : evE S W fa σ H fun x H' => ∃ k, x = .bl k ∧ R k H' := by
  obtain ⟨ι, ρ, m, rs, M, p⟩ := h
  refine evE_then rs M p fun d v ι1 m1 H1 rs1 M1 T1 rv p1 => ?_
  cases rv with
  | bl b => exact ⟨b, rfl, PostG.ok M1 p1⟩
  | _ => exact False.elim p1
theorem t_val {e : Expr} (h : PE X e (evE S W fa)) (he : ∀ whole, isTrue e X.env whole = (do let v ← whole; standAt e.pos; holding [v] (truthy v))) : PT X e (evB S W (testM fa)) :=
  ptI (pt_val h he) fun σ H Q w => evE_bool w
theorem t_cmp (g : GC S G F n X W) (op : COp) (ha : PE X a (evE S W fa)) (hb : PE X b (evE S W fb)) (hm : ∀ es k p, b ≠ .Set es k p) : PT X (.Compare a [op.py] [b] pos) (evB S W (testM (bin2 (cmpM op) fa fb))) :=
  ptI (pt_cmpR (oc g.hK (by have := g.units; omega) op) ha hb (mark_of hm)) fun σ H Q ⟨ι, ρ, m, rs, M, p⟩ => by
    have p : PostG S ι m H (fun c d H' => W c d σ H') (((fa ρ m).bind fun x m1 => (fb ρ m1).bind fun y m2 => cmpM op x y m2).bind truth) fun b _ _ H' => Q b H' := p
    have e : (((fa ρ m).bind fun x m1 => (fb ρ m1).bind fun y m2 => cmpM op x y m2).bind truth) = (fa ρ m).bind fun x m1 => (fb ρ m1).bind fun y m2 => (cmpM op x y m2).bind truth := by
      cases fa ρ m with
      | ok x m1 =>
        show (((fb ρ m1).bind fun y m2 => cmpM op x y m2).bind truth) = (fb ρ m1).bind fun y m2 => (cmpM op x y m2).bind truth
        cases fb ρ m1 <;> rfl
      | exc _ _ => rfl
      | bad => rfl
    rw [e] at p
    refine evE_then rs M p fun d v ι1 m1 H1 rs1 M1 T1 rv p1 => evE_then rs1 M1 p1 fun e u ι2 m2 H2 rs2 M2 T2 ru p2 => ⟨ι2, m2, _, d, e, M2, T2.repV M1 rv, ru, p2.bind.imp fun c ι3 m3 H3 T3 ⟨M3, _, q⟩ w rw => ?_⟩
    cases rw with
    | bl b => exact ⟨b, rfl, PostG.ok M3 q⟩
    | _ => exact False.elim q
end
end Ev

set_option Elab.async false
set_option linter.all false
set_option maxRecDepth 100000
set_option maxHeartbeats 4000000
namespace Ev
open PySem PySem.Spec PyProof.Rows L2
theorem bind_assoc {α β γ : Type} (o : Out α) (f : α → MV β) (g : β → MV γ) : (o.bind f).bind g = o.bind fun a m => (f a m).bind g := by cases o <;> rfl
section
variable {S : Sta} {G : Glo} {F : Nat → List D → MV D} {n : Nat} {X : Cx} {W : WX} {a b c : Expr} {es : List Expr} {fa fb fc : Rho → MV D} {pos : Pos}
theorem sel_ok {α : Type} {ι : Nat → Addr} {m m1 : Mem} {H : Hp} {E : XK} {A B : Out α} {d : D} {Q : α → (Nat → Addr) → Mem → Hp → Prop} (p : PostG S ι m H E (sel d A B) Q) : ∃ t, d = .bl t ∧ PostG S ι m H E (if t = true then A else B) Q := by
  match d, p with
  | .bl true, p => exact ⟨true, rfl, p⟩
  | .bl false, p => exact ⟨false, rfl, p⟩
  | .non, p => exact False.elim p
  | .int _, p => exact False.elim p
  | .str _, p => exact False.elim p
  | .tup _, p => exact False.elim p
  | .ref _, p => exact False.elim p
  | .fn _, p => exact False.elim p
  | .ty _, p => exact False.elim p
/-- a test decides -/
theorem test_sel {α : Type} {ι : Nat → Addr} {ρ : Rho} {m : Mem} {H : Hp} {E : XK} {A B : MV α} {Q : α → (Nat → Addr) → Mem → Hp → Prop} {R : Bool → (Nat → Addr) → Mem → Hp → Prop}
    (p : PostG S ι m H E ((fc ρ m).bind fun x m1 => sel x (A m1) (B m1)) Q)
    (k : ∀ t ι1 m1 H1, Step S ι m H ι1 m1 H1 → PostG S ι1 m1 H1 E ((if t = true then A else B) m1) Q → R t ι1 m1 H1) : PostG S ι m H E (testM fc ρ m) R := by
  unfold testM
  cases e : fc ρ m with
  | ok d m1 =>
    rw [e] at p
    have p : PostG S ι m H E (sel d (A m1) (B m1)) Q := p
    obtain ⟨t, rfl, p⟩ := sel_ok (m1 := m1) p
    have p : PostG S ι m H E ((if t = true then A else B) m1) Q := by cases t <;> exact p
    exact fun ι1 H1 T => k t ι1 m1 H1 T (PostG.step T p)
  | exc x m1 => rw [e] at p; exact p
  | bad => rw [e] at p; exact p
theorem s_ite (hc : PT X c (evB S W (testM fc))) (ha : PE X a (evE S W fa)) (hb : PE X b (evE S W fb)) : PE X (.IfExp c a b pos) (evE S W (iteM fc fa fb)) := by
  refine peI (pe_ifExp hc ha hb) fun σ H Q ⟨ι, ρ, m, rs, M, p⟩ => ⟨ι, ρ, m, rs, M, ?_⟩
  refine test_sel (A := fa ρ) (B := fb ρ) p fun t ι1 m1 H1 T q => ?_
  cases t with
  | true => exact ⟨ι1, ρ, m1, T.repS M rs, T.mem, q⟩
  | false => exact ⟨ι1, ρ, m1, T.repS M rs, T.mem, q⟩
/-! ### and, or, not: as tests -/
theorem pwI {e : Expr} {t t' : TT} (h : PW X e t) (k : ∀ σ H Q, t' σ H Q → t σ H Q) : PW X e t' := ⟨fun wh pins s σ H Q I w => h.run wh pins s σ H Q I (k σ H Q w)⟩
theorem sel_bind {α β : Type} {d : D} {A B : Out α} {f : α → MV β} : (sel d A B).bind f = sel d (A.bind f) (B.bind f) := by
  match d with
  | .bl true => rfl
  | .bl false => rfl
  | .non => rfl
  | .int _ => rfl
  | .str _ => rfl
  | .tup _ => rfl
  | .ref _ => rfl
  | .fn _ => rfl
  | .ty _ => rfl
theorem test_band {ρ : Rho} {m : Mem} : testM (bandM fa fb) ρ m = (fa ρ m).bind fun x m1 => sel x (testM fb ρ m1) (.ok false m1) := by
  unfold testM bandM
  rw [bind_assoc]
  congr 1
  funext x m1
  rw [sel_bind]
  rfl
theorem test_bor {ρ : Rho} {m : Mem} : testM (borM fa fb) ρ m = (fa ρ m).bind fun x m1 => sel x (.ok true m1) (testM fb ρ m1) := by
  unfold testM borM
  rw [bind_assoc]
  congr 1
  funext x m1
  rw [sel_bind]
  rfl
theorem test_not {ρ : Rho} {m : Mem} : testM (notM fa) ρ m = (fa ρ m).bind fun x m1 => sel x (.ok false m1) (.ok true m1) := by
  unfold testM notM
  rw [bind_assoc]
  congr 1
  funext x m1
  rw [sel_bind]
  rfl
theorem w_and1 (ha : PT X a (evB S W (testM fa))) : PW X (.BoolOp .And [a] pos) (evB S W (testM fa)) := pw_and1 ha
theorem w_or1 (ha : PT X a (evB S W (testM fa))) : PW X (.BoolOp .Or [a] pos) (evB S W (testM fa)) := pw_or1 ha
theorem w_and (ha : PT X a (evB S W (testM fa))) (hb : PW X (.BoolOp .And (b :: es) pos) (evB S W (testM fb))) : PW X (.BoolOp .And (a :: b :: es) pos) (evB S W (testM (bandM fa fb))) := by
  refine pwI (pw_and ha hb) fun σ H Q ⟨ι, ρ, m, rs, M, p⟩ => ⟨ι, ρ, m, rs, M, ?_⟩
  rw [test_band] at p
  refine test_sel (A := testM fb ρ) (B := fun m1 => .ok false m1) p fun t ι1 m1 H1 T q => ?_
  cases t with
  | true => exact ⟨ι1, ρ, m1, T.repS M rs, T.mem, q⟩
  | false => exact PostG.ok T.mem q
theorem w_or (ha : PT X a (evB S W (testM fa))) (hb : PW X (.BoolOp .Or (b :: es) pos) (evB S W (testM fb))) : PW X (.BoolOp .Or (a :: b :: es) pos) (evB S W (testM (borM fa fb))) := by
  refine pwI (pw_or ha hb) fun σ H Q ⟨ι, ρ, m, rs, M, p⟩ => ⟨ι, ρ, m, rs, M, ?_⟩
  rw [test_bor] at p
  refine test_sel (A := fun m1 => .ok true m1) (B := testM fb ρ) p fun t ι1 m1 H1 T q => ?_
  cases t with
  | true => exact PostG.ok T.mem q
  | false => exact ⟨ι1, ρ, m1, T.repS M rs, T.mem, q⟩
theorem t_not (ha : PT X a (evB S W (testM fa))) : PT X (.UnaryOp .Not a pos) (evB S W (testM (notM fa))) := by
  refine ptI (pt_not ha) fun σ H Q ⟨ι, ρ, m, rs, M, p⟩ => ⟨ι, ρ, m, rs, M, ?_⟩
  rw [test_not] at p
  refine test_sel (A := fun m1 => .ok false m1) (B := fun m1 => .ok true m1) p fun t ι1 m1 H1 T q => ?_
  cases t with
  | true => exact PostG.ok T.mem q
  | false => exact PostG.ok T.mem q
/-! ### as values -/
theorem bool_sel {ι : Nat → Addr} {ρ : Rho} {m : Mem} {σ : L2.St} {H : Hp} {A B : MV D} {Q : D → (Nat → Addr) → Mem → Hp → Prop} {R : VK} (rs : RepS S ι m.nx H ρ σ) (M : RepM S ι H m)
    (p : PostG S ι m H (fun c d H' => W c d σ H') ((fa ρ m).bind fun x m1 => sel x (A m1) (B m1)) Q)
    (k : ∀ t ι1 m1 H1, RepS S ι1 m1.nx H1 ρ σ → RepM S ι1 H1 m1 → PostG S ι1 m1 H1 (fun c d H' => W c d σ H') ((if t = true then A else B) m1) Q → R (.bl t) H1) : evE S W fa σ H R := by
  refine evE_then rs M p fun d v ι1 m1 H1 rs1 M1 T1 rv p1 => ?_
  obtain ⟨t, rfl, p1⟩ := sel_ok (m1 := m1) p1
  cases rv
  exact k t ι1 m1 H1 rs1 M1 (by cases t <;> exact p1)
theorem s_and (ha : PE X a (evE S W fa)) (hb : PE X (.BoolOp .And (b :: es) pos) (evE S W fb)) : PE X (.BoolOp .And (a :: b :: es) pos) (evE S W (bandM fa fb)) := by
  refine peI (pe_and ha hb) fun σ H Q ⟨ι, ρ, m, rs, M, p⟩ => bool_sel (A := fb ρ) (B := fun m1 => .ok (.bl false) m1) rs M p fun t ι1 m1 H1 rs1 M1 q => ⟨t, rfl, ?_⟩
  cases t with
  | true => exact ⟨ι1, ρ, m1, rs1, M1, q⟩
  | false => exact PostG.ok M1 q _ (.bl _)
theorem s_or (ha : PE X a (evE S W fa)) (hb : PE X (.BoolOp .Or (b :: es) pos) (evE S W fb)) : PE X (.BoolOp .Or (a :: b :: es) pos) (evE S W (borM fa fb)) := by
  refine peI (pe_or ha hb) fun σ H Q ⟨ι, ρ, m, rs, M, p⟩ => bool_sel (A := fun m1 => .ok (.bl true) m1) (B := fb ρ) rs M p fun t ι1 m1 H1 rs1 M1 q => ⟨t, rfl, ?_⟩
  cases t with
  | true => exact PostG.ok M1 q _ (.bl _)
  | false => exact ⟨ι1, ρ, m1, rs1, M1, q⟩
theorem s_not (ha : PE X a (evE S W fa)) : PE X (.UnaryOp .Not a pos) (evE S W (notM fa)) := by
  refine peI (pe_not ha) fun σ H Q ⟨ι, ρ, m, rs, M, p⟩ => bool_sel (A := fun m1 => .ok (.bl false) m1) (B := fun m1 => .ok (.bl true) m1) rs M p fun t ι1 m1 H1 rs1 M1 q => ⟨t, rfl, ?_⟩
  cases t with
  | true => exact PostG.ok M1 q _ (.bl _)
  | false => exact PostG.ok M1 q _ (.bl _)
/-! ### a < b < c -/
theorem last_of {o o' : CmpOp} {e f : Expr} (h : ∀ es k p, f ≠ .Set es k p) : lastMarks [o, o'] [e, f] = false := mark_of h
theorem cmpM_out {o : COp} {d e r : D} {m m' : Mem} (h : cmpM o d e m = .ok r m') : m' = m ∧ ∃ t, r = .bl t := by
  unfold cmpM at h
  cases q : cmpF o d e m with
  | none => rw [q] at h; cases h
  | some t => rw [q] at h; cases h; exact ⟨rfl, t, rfl⟩
theorem chain_go (o1 o2 : COp) {σ : L2.St} {H : Hp} {Q : VK} (w : evE S W (chainM o1 o2 fa fb fc) σ H Q) : tChain (r2M S (cmpM o1)) (r2M S (cmpM o2)) (evE S W fa) (evE S W fb) (evE S W fc) σ H Q := by
  obtain ⟨ι, ρ, m, rs, M, p⟩ := w
  refine evE_then rs M p fun d v ι1 m1 H1 rs1 M1 T1 rv p1 => evE_then rs1 M1 p1 fun e u ι2 m2 H2 rs2 M2 T2 ru p2 => ⟨ι2, m2, _, d, e, M2, T2.repV M1 rv, ru, p2.bind.imp fun r ι3 m3 H3 T3 ⟨M3, _, q⟩ w rw => ?_⟩
  obtain ⟨t, rfl, q⟩ := sel_ok (m1 := m3) q
  cases rw
  refine ⟨t, rfl, ?_⟩
  cases t with
  | true => exact evE_then (T3.repS M2 rs2) M3 q fun z y ι4 m4 H4 rs4 M4 T4 ry q4 => ⟨ι4, m4, _, e, z, M4, T4.repV M3 (T3.repV M2 ru), ry, q4⟩
  | false => exact PostG.ok M3 q _ (.bl _)
theorem s_chain (g : GC S G F n X W) (o1 o2 : COp) (ha : PE X a (evE S W fa)) (hb : PE X b (evE S W fb)) (hc : PE X c (evE S W fc)) (hm : ∀ es k p, c ≠ .Set es k p) : PE X (.Compare a [o1.py, o2.py] [b, c] pos) (evE S W (chainM o1 o2 fa fb fc)) :=
  peI (pe_chain (oc g.hK (by have := g.units; omega) o1) (oc g.hK (by have := g.units; omega) o2) ha hb hc (last_of hm)) fun σ H Q w => chain_go o1 o2 w
theorem t_chain (g : GC S G F n X W) (o1 o2 : COp) (ha : PE X a (evE S W fa)) (hb : PE X b (evE S W fb)) (hc : PE X c (evE S W fc)) (hm : ∀ es k p, c ≠ .Set es k p) : PT X (.Compare a [o1.py, o2.py] [b, c] pos) (evB S W (testM (chainM o1 o2 fa fb fc))) := by
  refine ptI (pt_chain (oc g.hK (by have := g.units; omega) o1) (oc g.hK (by have := g.units; omega) o2) ha hb hc (last_of hm)) fun σ H Q w => ?_
  have w := evE_bool w
  exact chain_go o1 o2 w
/-! ### calls -/
theorem not_bad {α : Type} {ι : Nat → Addr} {m : Mem} {H : Hp} {E : XK} {o : Out α} {Q : α → (Nat → Addr) → Mem → Hp → Prop} (p : PostG S ι m H E o Q) : o ≠ .bad := fun e => by rw [e] at p; exact p
theorem run_callee {k : Nat} {ι : Nat → Addr} {m : Mem} {H : Hp} {σ : L2.St} {s : Shared} {pins : List (Addr × Obj)} {Q : VK} {ds : List D} {vs : List V} {us : List Value} (g : GC S G F n X W) (I : Inv X pins σ H s) (M : RepM S ι H m) (r : RepVs S ι m.nx H ds vs) (rv : Vals vs us)
    (p : PostG S ι m H (fun c d H' => W c d σ H') (F k ds m) fun d ι' m' H' => ∀ v, RepV S ι' m'.nx H' d v → Q v H') : wpAny (model X.prog X.w) X.A (call (.ref (S.fa k)) us) (EP X pins σ Q) X.xe s := by
  obtain ⟨fd, ps, hb, hl, FF⟩ := (g.fns k ds m (not_bad p)).ex
  exact run_fnG g FF hb I rv (by rw [← r.len]; exact hl ds m (not_bad p)) ⟨ι, m, ds, r, M, p⟩
/-- the arguments, then the call -/
theorem call_args {k k' : Nat} {ι : Nat → Addr} {ρ : Rho} {m : Mem} {H : Hp} {σ : L2.St} {s : Shared} {pins : List (Addr × Obj)} {Q : VK} (g : GC S G F n X W) (ha : PA X es (evA S W fa)) (hl : TupLen fa k') (I : Inv X pins σ H s) (rs : RepS S ι m.nx H ρ σ) (M : RepM S ι H m)
    (w : PostG S ι m H (fun c d H' => W c d σ H') (callM F k fa ρ m) fun d ι' m' H' => ∀ v, RepV S ι' m'.nx H' d v → Q v H') :
    wpAny (model X.prog X.w) X.A (spliced (backTo pos (starEach es X.env))) (fun us s1 => X.K.In s1.heap ∧ wpAny (model X.prog X.w) X.A (call (.ref (S.fa k)) us) (EP X pins σ Q) X.xe s1) X.xe s := by
  have h : evA S W fa σ H fun vs H1 => ∃ ι m ds, RepM S ι H1 m ∧ RepVs S ι m.nx H1 ds vs ∧ PostG S ι m H1 (fun c d H' => W c d σ H') (F k ds m) fun d ι' m' H' => ∀ v, RepV S ι' m'.nx H' d v → Q v H' :=
    evE_evA (Q := fun _ _ _ _ => True) hl rs M w fun ds vs ι1 m1 H1 hk rs1 M1 T1 r q => ⟨ι1, m1, ds, M1, r, q⟩
  refine thn (ha.run pos pins s σ H _ I h) fun us s1 ⟨vs, H1, I1, rv, ι1, m1, ds, M1, r, q⟩ => ⟨I1.kIn, run_callee g I1 M1 r rv q⟩
theorem s_call {k : Nat} {x : Str} {p : Pos} (g : GC S G F n X W) (hg : Gl X x) (hm : X.mg x = some (.ref (S.fa k))) (hd : (x == ("__debug__" : Str)) = false) (ha : PA X (a :: es) (evA S W fa)) (hl : TupLen fa (es.length + 1)) (hp : (a :: es).all plainX = true) : PE X (.Call (.Name x p) (a :: es) [] pos) (evE S W (callM F k fa)) := by
  refine ⟨fun pins s σ H Q I ⟨ι, ρ, m, rs, M, w⟩ => ?_⟩
  rw [List.all_cons, Bool.and_eq_true] at hp
  refine wpAny_Call_Name_kw (ld_glob I hg hm ?_ hd)
  exact PySem.W.callWith_K (h₀ := X.base) I.ok.mod.kin (g.kp k) (call_args g ha hl I rs M w) (star1 hp.1 es X.env) (star_any hp.2)
theorem s_call0 {k : Nat} {x : Str} {p : Pos} (g : GC S G F n X W) (hg : Gl X x) (hm : X.mg x = some (.ref (S.fa k))) (hd : (x == ("__debug__" : Str)) = false) : PE X (.Call (.Name x p) [] [] pos) (evE S W (callM F k fun _ => okk (.tup []))) := by
  refine ⟨fun pins s σ H Q I ⟨ι, ρ, m, rs, M, w⟩ => ?_⟩
  refine wpAny_Call_Name_kw (ld_glob I hg hm ?_ hd)
  exact PySem.W.callWith_K0 I.kIn (g.kp k) (run_callee (us := []) g I M .nil .nil w)
theorem s_callv {x : Str} {p : Pos} {ff : Rho → MV D} (g : GC S G F n X W) (hv : ∀ pos, PE X (.Name x pos) (evE S W ff)) (ha : PA X (a :: es) (evA S W fa)) (hl : TupLen fa (es.length + 1)) (hp : (a :: es).all plainX = true) : PE X (.Call (.Name x p) (a :: es) [] pos) (evE S W (callvM F ff fa)) := by
  refine ⟨fun pins s σ H Q I ⟨ι, ρ, m, rs, M, w⟩ => ?_⟩
  rw [List.all_cons, Bool.and_eq_true] at hp
  refine wpAny_Call_Name_kw ?_
  have h := (hv p).run pins s σ H (fun v H1 => ∃ k ι1 m1, v = .ref (S.fa k) ∧ RepS S ι1 m1.nx H1 ρ σ ∧ RepM S ι1 H1 m1 ∧ PostG S ι1 m1 H1 (fun c d H' => W c d σ H') (callM F k fa ρ m1) fun d ι' m' H' => ∀ v, RepV S ι' m'.nx H' d v → Q v H') I
    (evE_then rs M w fun d v ι1 m1 H1 rs1 M1 T1 rv q => by
      cases rv with
      | fn k => exact ⟨k, ι1, m1, rfl, rs1, M1, q⟩
      | _ => exact False.elim q)
  refine thn h fun u s1 ⟨v, H1, I1, r1, k, ι1, m1, e, rs1, M1, q⟩ => ?_
  subst e
  cases r1
  exact PySem.W.callWith_K (h₀ := X.base) I1.ok.mod.kin (g.kp k) (call_args g ha hl I1 rs1 M1 q) (star1 hp.1 es X.env) (star_any hp.2)
theorem s_callv0 {x : Str} {p : Pos} {ff : Rho → MV D} (g : GC S G F n X W) (hv : ∀ pos, PE X (.Name x pos) (evE S W ff)) : PE X (.Call (.Name x p) [] [] pos) (evE S W (callvM F ff fun _ => okk (.tup []))) := by
  refine ⟨fun pins s σ H Q I ⟨ι, ρ, m, rs, M, w⟩ => ?_⟩
  refine wpAny_Call_Name_kw ?_
  have h := (hv p).run pins s σ H (fun v H1 => ∃ k ι1 m1, v = .ref (S.fa k) ∧ RepS S ι1 m1.nx H1 ρ σ ∧ RepM S ι1 H1 m1 ∧ PostG S ι1 m1 H1 (fun c d H' => W c d σ H') (F k [] m1) fun d ι' m' H' => ∀ v, RepV S ι' m'.nx H' d v → Q v H') I
    (evE_then rs M w fun d v ι1 m1 H1 rs1 M1 T1 rv q => by
      cases rv with
      | fn k => exact ⟨k, ι1, m1, rfl, rs1, M1, q⟩
      | _ => exact False.elim q)
  refine thn h fun u s1 ⟨v, H1, I1, r1, k, ι1, m1, e, rs1, M1, q⟩ => ?_
  subst e
  cases r1
  exact PySem.W.callWith_K0 I1.kIn (g.kp k) (run_callee (us := []) g I1 M1 .nil .nil q)
/-! ### built-in functions -/
theorem blt_go {b : Blt} {k : Nat} (hl : TupLen fa k) {σ : L2.St} {H : Hp} {Q : VK} (w : evE S W (bltM b fa) σ H Q) : tCB (rcM S (bltF b)) (evA S W fa) σ H Q := by
  obtain ⟨ι, ρ, m, rs, M, p⟩ := w
  exact evE_evA (Q := fun _ _ _ _ => True) hl rs M p fun ds vs ι1 m1 H1 hk rs1 M1 T1 r q => ⟨ι1, m1, _, ds, M1, r, q⟩
theorem s_blt {b : Blt} {p : Pos} (g : GC S G F n X W) (hg : Gl X b.nm) (hm : X.mg b.nm = none) (ha : PA X (a :: es) (evA S W fa)) (hl : TupLen fa (es.length + 1)) (hp : (a :: es).all plainX = true) : PE X (.Call (.Name b.nm p) (a :: es) [] pos) (evE S W (bltM b fa)) := by
  rw [List.all_cons, Bool.and_eq_true] at hp
  have hc := cbl g.hK g.calm g.guard g.units b
  refine peI (t := tCB (rcM S (bltF b)) (evA S W fa)) ?_ fun σ H Q w => blt_go hl w
  have e1 := star1 hp.1 es X.env
  have e2 := star_any (pos := pos) (env := X.env) hp.2
  cases b with
  | int => exact pe_callTy hc hg hm (by decide +kernel) ha (by decide +kernel) (by decide +kernel) e1 e2
  | list => exact pe_callTy hc hg hm (by decide +kernel) ha (by decide +kernel) (by decide +kernel) e1 e2
  | tuple => exact pe_callTy hc hg hm (by decide +kernel) ha (by decide +kernel) (by decide +kernel) e1 e2
  | _ => exact pe_callB hc hg hm (by decide +kernel) ha (by decide +kernel) (by decide +kernel) e1 e2
/-! ### items, slices -/
theorem plainIx_of {e : Expr} (h : ∀ l u p, e ≠ .Slice l u none p) : PlainIx e := by
  intro o i
  cases e with
  | Slice l u st p => cases st with
    | none => exact absurd rfl (h _ _ _)
    | some _ => rfl
  | _ => rfl
theorem s_ix (g : GC S G F n X W) (ha : PE X a (evE S W fa)) (hb : PE X b (evE S W fb)) (hm : ∀ l u p, b ≠ .Slice l u none p) : PE X (.Subscript a b pos) (evE S W (bin2 ixF fa fb)) :=
  s_two (ta := fun _ _ _ _ => True) (pe_ix (ixr g.hK) ha hb (plainIx_of hm))
/-- a part of a slice, by a meaning -/
structure Part (S : Sta) (W : WX) (X : Cx) (lo : Option Expr) (f : Rho → MV (Option Int)) : Prop where
  ex : ∃ t, PO X lo t ∧ ∀ (ι : Nat → Addr) (ρ : Rho) (m : Mem) (σ : L2.St) (H : Hp) (β : Type) (g : Option Int → MV β) (Q : β → (Nat → Addr) → Mem → Hp → Prop) (R : Option Int → Hp → Prop), RepS S ι m.nx H ρ σ → RepM S ι H m →
    PostG S ι m H (fun c d H' => W c d σ H') ((f ρ m).bind g) Q →
    (∀ o ι1 m1 H1, RepS S ι1 m1.nx H1 ρ σ → RepM S ι1 H1 m1 → Step S ι m H ι1 m1 H1 → PostG S ι1 m1 H1 (fun c d H' => W c d σ H') (g o m1) Q → R o H1) → t σ H R
theorem part_none : Part S W X none (partM true fun _ => okk .non) :=
  ⟨_, po_none, fun ι ρ m σ H β g Q R rs M p k => k none ι m H rs M (Step.refl M) p⟩
theorem part_some (ha : PE X a (evE S W fa)) : Part S W X (some a) (partM false fa) := by
  refine ⟨_, po_some ha, fun ι ρ m σ H β g Q R rs M p k => ?_⟩
  unfold partM at p
  rw [bind_assoc] at p
  refine evE_then rs M p fun d v ι1 m1 H1 rs1 M1 T1 rv q => ?_
  cases rv with
  | int i => exact ⟨i, rfl, k (some i) ι1 m1 H1 rs1 M1 T1 q⟩
  | _ => exact False.elim q
theorem s_slice {lo hi : Option Expr} {p2 : Pos} {fl fh : Rho → MV (Option Int)} (g : GC S G F n X W) (ha : PE X a (evE S W fa)) (hl : Part S W X lo fl) (hh : Part S W X hi fh) : PE X (.Subscript a (.Slice lo hi none p2) pos) (evE S W (sliceM fa fl fh)) := by
  obtain ⟨tl, pl, kl⟩ := hl.ex
  obtain ⟨th, ph, kh⟩ := hh.ex
  refine peI (pe_slice (slr g.hK) ha pl ph) fun σ H Q ⟨ι, ρ, m, rs, M, p⟩ => ?_
  refine evE_then rs M p fun d v ι1 m1 H1 rs1 M1 T1 rv p1 => ?_
  refine kl _ _ _ _ _ _ _ _ _ rs1 M1 p1 fun lo ι2 m2 H2 rs2 M2 T2 p2 => ?_
  refine kh _ _ _ _ _ _ _ _ _ rs2 M2 p2 fun hi ι3 m3 H3 rs3 M3 T3 p3 => ?_
  exact ⟨ι3, m3, _, d, M3, T3.repV M2 (T2.repV M1 rv), p3⟩
end
end Ev

set_option Elab.async false
set_option linter.all false
set_option maxRecDepth 100000
set_option maxHeartbeats 4000000
namespace Ev
open PySem PySem.Spec PyProof.Rows L2

/-! ## what is walked -/
def SrcOk (S : Sta) (ι : Nat → Addr) (m : Mem) (H : Hp) : Src → It → Prop
  | .items ds, J => (∃ a vs, J = Itt S.K a ∧ SqT S.K H a vs ∧ RepVs S ι m.nx H ds vs) ∨ ∃ lo n, J = Itr lo n ∧ ds = iota lo n
  | .held n ds, J => J = Itl S.K (ι n) ∧ m.lst n = some ds
def evI (S : Sta) (W : WX) (f : Rho → MV Src) : TI := fun σ H R => ∃ ι ρ m, RepS S ι m.nx H ρ σ ∧ RepM S ι H m ∧
  PostG S ι m H (fun c d H' => W c d σ H') (f ρ m) fun s ι' m' H' => ∀ J, SrcOk S ι' m' H' s J → R J H'
section
variable {X : Cx} {tg : Expr}
theorem piI {e : Expr} {t t' : TI} (h : PI X tg e t) (k : ∀ σ H Q, t' σ H Q → t σ H Q) : PI X tg e t' := ⟨fun pins s σ H Q I w => h.run pins s σ H Q I (k σ H Q w)⟩
/-- a list or a tuple -/
theorem pi_seq {l : Expr} {tl : TE} (hl : PE X l tl) : PI X tg l fun σ H R => tl σ H fun x H1 => ∃ a, x = .ref a ∧ (((∃ xs, SqL X.K H1 a xs) ∧ R (Itl X.K a) H1) ∨ ((∃ xs, SqT X.K H1 a xs) ∧ R (Itt X.K a) H1)) := by
  constructor
  intro pins s σ H R I h
  refine thn (hl.run pins s σ H _ I h) fun v s1 ⟨x, H1, I1, r1, a, e, q⟩ => ?_
  subst e
  cases r1
  have fresh : ∀ {o : Obj} {b : Addr}, b ∈ [s1.heap.objs.size] → FpOk X pins H1 b := fun {o b} hb => by
    obtain rfl : b = s1.heap.objs.size := by simpa using hb
    exact I1.fpOk (Nat.le_refl _) (I1.hok.fresh (Nat.le_refl _))
  have kp : ∀ (o : Obj), Inv X pins σ H1 { s1 with heap := s1.heap.push o } := fun o => I1.kept (t' := s1.toks) fun b u e => Heap.get?_push_of_some _ e
  rcases q with ⟨⟨xs, hq⟩, q⟩ | ⟨⟨xs, hq⟩, q⟩
  · obtain ⟨its, _, p, _⟩ := I1.list hq
    exact wpAny_pyIter_list p.isList ⟨_, [s1.heap.objs.size], _, _, H1, rfl, kp _, turn_list a _, ⟨_, Heap.get?_push_size _ rfl, rfl, rfl⟩, fun b hb => fresh (o := default) hb, q⟩
  · obtain ⟨its, _, p, _⟩ := I1.tuple hq
    exact wpAny_pyIter_tuple (show s1.heap.IsTuple a its.toArray from p) ⟨_, [s1.heap.objs.size], _, _, H1, rfl, kp _, turn_tuple a _, ⟨_, Heap.get?_push_size _ rfl, rfl, rfl⟩, fun b hb => fresh (o := default) hb, q⟩
end
section
variable {S : Sta} {G : Glo} {F : Nat → List D → MV D} {n : Nat} {X : Cx} {W : WX} {a b c tg : Expr} {es : List Expr} {fa fb fc : Rho → MV D} {pos : Pos}
theorem i_val (g : GC S G F n X W) (ha : PE X a (evE S W fa)) : PI X tg a (evI S W (asV fa).s) := by
  refine piI (pi_seq ha) fun σ H R ⟨ι, ρ, m, rs, M, p⟩ => ?_
  refine evE_then rs M p fun d v ι1 m1 H1 rs1 M1 T1 rv q => ?_
  cases rv with
  | tup h r => exact ⟨_, rfl, .inr ⟨⟨_, by rw [g.hK]; exact h⟩, by rw [g.hK]; exact PostG.ok M1 q _ (.inl ⟨_, _, rfl, h, r⟩)⟩⟩
  | @ref k hk =>
    have q : PostG S ι1 m1 H1 (fun c d H' => W c d σ H') (match m1.lst k with | some ds => .ok (Src.held k ds) m1 | none => .bad) fun s ι' m' H' => ∀ J, SrcOk S ι' m' H' s J → R J H' := q
    cases e : m1.lst k with
    | none => rw [e] at q; exact False.elim q
    | some ds =>
      rw [e] at q
      obtain ⟨vs, h, _⟩ := M1.lstL e
      exact ⟨_, rfl, .inl ⟨⟨vs, by rw [g.hK]; exact h⟩, by rw [g.hK]; exact PostG.ok M1 q _ ⟨rfl, e⟩⟩⟩
  | _ => exact False.elim q
theorem rng_ok {ι : Nat → Addr} {m : Mem} {H : Hp} {E : XK} {i j : Int} {R : It → Hp → Prop} (M : RepM S ι H m) (p : PostG S ι m H E (rngI i j m) fun s ι' m' H' => ∀ J, SrcOk S ι' m' H' s J → R J H') :
    (-(2 ^ 62) ≤ i ∧ i < 2 ^ 62 ∧ -(2 ^ 62) ≤ j ∧ j < 2 ^ 62) ∧ R (Itr i (j - i).toNat) H := by
  unfold rngI at p
  cases e : small i && small j with
  | false => rw [e] at p; exact False.elim p
  | true =>
    rw [e] at p
    simp only [small, Bool.and_eq_true, decide_eq_true_eq] at e
    exact ⟨⟨by omega, by omega, by omega, by omega⟩, PostG.ok M p _ (.inr ⟨_, _, rfl, rfl⟩)⟩
theorem i_rng1 {p : Pos} (hg : Gl X "range") (hm : X.mg "range" = none) (ha : PE X a (evE S W fa)) (hp : plainX a = true) : PI X tg (.Call (.Name "range" p) [a] [] pos) (evI S W (rng1M fa)) := by
  refine piI (pi_range1 hg hm (pa_cons ha pa_nil (star1 hp [] X.env)) (star1 hp [] X.env)) fun σ H R ⟨ι, ρ, m, rs, M, p⟩ => ?_
  refine evE_then rs M p fun d v ι1 m1 H1 rs1 M1 T1 rv q => ?_
  cases rv with
  | int j =>
    obtain ⟨⟨_, _, h3, h4⟩, q⟩ := rng_ok M1 q
    exact ⟨j, rfl, h3, h4, by rw [Int.sub_zero] at q; exact q⟩
  | _ => exact False.elim q
theorem i_rng2 {p : Pos} (hg : Gl X "range") (hm : X.mg "range" = none) (ha : PE X a (evE S W fa)) (hb : PE X b (evE S W fb)) (hp : plainX a = true) (hp2 : plainX b = true) : PI X tg (.Call (.Name "range" p) [a, b] [] pos) (evI S W (rng2M fa fb)) := by
  refine piI (pi_range2 hg hm (pa_cons ha (pa_cons hb pa_nil (star1 hp2 [] X.env)) (star1 hp [b] X.env)) (by rw [star1 hp, star1 hp2] <;> rfl) (star1 hp2 [] X.env)) fun σ H R ⟨ι, ρ, m, rs, M, p⟩ => ?_
  refine evE_then rs M p fun d v ι1 m1 H1 rs1 M1 T1 rv q => evE_then rs1 M1 q fun e u ι2 m2 H2 rs2 M2 T2 ru q => ?_
  cases rv with
  | int i => cases ru with
    | int j =>
      obtain ⟨h, q⟩ := rng_ok M2 q
      exact ⟨i, j, rfl, h, q⟩
    | _ => exact False.elim q
  | _ => cases ru <;> exact False.elim q
/-! ## targets -/
structure Out1 (L : List Nat) (σ σ' : L2.St) : Prop where
  len : σ'.length = σ.length
  out : ∀ i, i ∉ L → σ'[i]? = σ[i]?
def evG (S : Sta) (L : List Nat) (f : D → Rho → MV Rho) : TG := fun v σ H Q => ∃ ι ρ m d, RepS S ι m.nx H ρ σ ∧ RepM S ι H m ∧ RepV S ι m.nx H d v ∧
  PostG S ι m H (fun _ _ _ => False) (noX (f d ρ m)) fun ρ' ι' m' H' => ∀ σ', RepS S ι' m'.nx H' ρ' σ' → Out1 L σ σ' → Q σ' H'
def evGs (S : Sta) (L : List Nat) (f : D → Rho → MV Rho) : TGs := fun vs σ H Q => ∃ ι ρ m ds, RepS S ι m.nx H ρ σ ∧ RepM S ι H m ∧ RepVs S ι m.nx H ds vs ∧
  PostG S ι m H (fun _ _ _ => False) (noX (f (.tup ds) ρ m)) fun ρ' ι' m' H' => ∀ σ', RepS S ι' m'.nx H' ρ' σ' → Out1 L σ σ' → Q σ' H'
theorem pgI {e : Expr} {t t' : TG} (h : PG X e t) (k : ∀ v σ H Q, t' v σ H Q → t v σ H Q) : PG X e t' := ⟨fun pins s σ H v u Q I r w => h.run pins s σ H v u Q I r (k v σ H Q w)⟩
theorem pgsI {e : List Expr} {t t' : TGs} (h : PGs X e t) (k : ∀ v σ H Q, t' v σ H Q → t v σ H Q) : PGs X e t' := ⟨fun pins s σ H v u Q I r w => h.run pins s σ H v u Q I r (k v σ H Q w)⟩
theorem noX_bind {α β : Type} {o : Out α} {f : α → MV β} : noX (o.bind f) = (noX o).bind fun a m => noX (f a m) := by cases o <;> rfl
theorem noX_noX {α : Type} {o : Out α} : noX (noX o) = noX o := by cases o <;> rfl
theorem noX_any {α : Type} {ι : Nat → Addr} {m : Mem} {H : Hp} {E E' : XK} {o : Out α} {Q : α → (Nat → Addr) → Mem → Hp → Prop} (p : PostG S ι m H E (noX o) Q) : PostG S ι m H E' (noX o) Q := by
  cases o with
  | ok a m' => exact p
  | exc x m' => exact False.elim p
  | bad => exact False.elim p
theorem noX_of {α : Type} {ι : Nat → Addr} {m : Mem} {H : Hp} {E E' : XK} {o : Out α} {Q : α → (Nat → Addr) → Mem → Hp → Prop} (p : PostG S ι m H E (noX o) Q) : PostG S ι m H E' o Q := by
  cases o with
  | ok a m' => exact p
  | exc x m' => exact False.elim p
  | bad => exact False.elim p
theorem out_set {σ : L2.St} {i : Nat} {v : V} : Out1 [i] σ (σ.set i (some v)) := ⟨by rw [List.length_set], fun j h => List.getElem?_set_ne (fun e => h (by rw [e]; exact List.mem_singleton.mpr rfl))⟩
theorem Out1.refl {L : List Nat} {σ : L2.St} : Out1 L σ σ := ⟨rfl, fun _ _ => rfl⟩
theorem Out1.app {L L' : List Nat} {σ σ' σ2 : L2.St} (A : Out1 L σ σ') (B : Out1 L' σ' σ2) : Out1 (L ++ L') σ σ2 :=
  ⟨B.len.trans A.len, fun i h => (B.out i fun z => h (List.mem_append_right _ z)).trans (A.out i fun z => h (List.mem_append_left _ z))⟩
theorem g_name {i : Nat} {x : Str} (g : GC S G F n X W) (hi : X.N[i]? = some x) (hx : Loc X.env.scope x) (hf : X.fn x = true ∨ X.env.scope.names.lookup x = some .local) : PG X (.Name x pos) (evG S [i] (tnmM i)) :=
  pgI (pg_name g.nd hi hx hf) fun v σ H Q ⟨ι, ρ, m, d, rs, M, rd, p⟩ => PostG.ok M p _ (rs.set rd i) out_set
theorem g_nil : PGs X [] (evGs S [] tnilM) := pgsI pgs_nil fun vs σ H Q ⟨ι, ρ, m, ds, rs, M, rd, p⟩ => by
  match ds, rd, p with
  | [], rd, p =>
    cases rd
    exact ⟨rfl, PostG.ok M p _ rs Out1.refl⟩
  | _ :: _, _, p => exact False.elim p
theorem asg1 {e : Expr} (h : plainX e = true) (es : List Expr) (env : PySem.Env) : assignEach (e :: es) env = (false, assign e env) :: assignEach es env := by
  cases e <;> first | rfl | cases h
theorem g_cons {e : Expr} {L L' : List Nat} {ft fs : D → Rho → MV Rho} (h1 : PG X e (evG S L ft)) (h2 : PGs X es (evGs S L' fs)) (hp : plainX e = true) : PGs X (e :: es) (evGs S (L ++ L') (tconsM ft fs)) := by
  refine pgsI (pgs_cons h1 h2 (by rw [asg1 hp] <;> rfl)) fun vs σ H Q ⟨ι, ρ, m, ds, rs, M, rd, p⟩ => ?_
  match ds, rd, p with
  | [], _, p => exact False.elim p
  | d :: ds, .cons (v := v) (vs := vr) r rr, p =>
    refine ⟨v, vr, rfl, ι, ρ, m, d, rs, M, r, ?_⟩
    have p : PostG S ι m H (fun _ _ _ => False) (noX ((ft d ρ m).bind fun ρ1 m1 => fs (.tup ds) ρ1 m1)) fun ρ' ι' m' H' => ∀ σ', RepS S ι' m'.nx H' ρ' σ' → Out1 (L ++ L') σ σ' → Q σ' H' := p
    rw [noX_bind] at p
    refine p.bind.imp fun ρ1 ι1 m1 H1 T ⟨M1, _, q⟩ σ1 rs1 o1 => ⟨ι1, ρ1, m1, ds, rs1, M1, T.repVs M rr, q.imp fun ρ2 ι2 m2 H2 T2 q2 σ2 rs2 o2 => q2 σ2 rs2 (o1.app o2)⟩
def TgtLen (f : D → Rho → MV Rho) (k : Nat) : Prop := ∀ d ρ m, (∀ ds, d = .tup ds → ds.length ≠ k) → noX (f d ρ m) = .bad
theorem tgtLen_nil : TgtLen tnilM 0 := fun d ρ m h => by
  match d, h with
  | .tup [], h => exact absurd rfl (h [] rfl)
  | .tup (_ :: _), _ => rfl
  | .non, _ => rfl
  | .bl _, _ => rfl
  | .int _, _ => rfl
  | .str _, _ => rfl
  | .ref _, _ => rfl
  | .fn _, _ => rfl
  | .ty _, _ => rfl
theorem tgtLen_cons {k : Nat} {ft fs : D → Rho → MV Rho} (h : TgtLen fs k) : TgtLen (tconsM ft fs) (k + 1) := fun d ρ m hn => by
  match d, hn with
  | .tup [], _ => rfl
  | .tup (d :: ds), hn =>
    show noX ((ft d ρ m).bind fun ρ1 m1 => fs (.tup ds) ρ1 m1) = .bad
    rw [noX_bind]
    have hn : ∀ es, D.tup ds = .tup es → es.length ≠ k := fun es e q => by
      cases e
      exact hn _ rfl (by rw [List.length_cons, q])
    cases ft d ρ m with
    | ok ρ1 m1 => exact h _ ρ1 m1 hn
    | _ => rfl
  | .non, _ => rfl
  | .bl _, _ => rfl
  | .int _, _ => rfl
  | .str _, _ => rfl
  | .ref _, _ => rfl
  | .fn _, _ => rfl
  | .ty _, _ => rfl
theorem asg_len : ∀ {es : List Expr} {env : PySem.Env}, es.all plainX = true → (assignEach es env).length = es.length ∧ (assignEach es env).findIdx? (·.1) = none
  | [], _, _ => ⟨rfl, rfl⟩
  | e :: es, env, h => by
    rw [List.all_cons, Bool.and_eq_true] at h
    obtain ⟨h1, h2⟩ := asg_len (env := env) h.2
    rw [asg1 h.1]
    refine ⟨by rw [List.length_cons, List.length_cons, h1], ?_⟩
    rw [List.findIdx?_cons, h2] <;> rfl
theorem g_tup {k : Nat} {L : List Nat} {ft : D → Rho → MV Rho} (g : GC S G F n X W) (h : PGs X es (evGs S L ft)) (hl : TgtLen ft es.length) (hp : es.all plainX = true) : PG X (.Tuple es k pos) (evG S L ft) := by
  obtain ⟨h1, h2⟩ := asg_len (env := X.env) hp
  refine pgI (pg_tup g.calm h h1 h2) fun v σ H Q ⟨ι, ρ, m, d, rs, M, rd, p⟩ => ?_
  by_cases hd : ∃ ds, d = .tup ds ∧ ds.length = es.length
  · obtain ⟨ds, rfl, hk⟩ := hd
    cases rd with
    | tup ha r => exact ⟨_, _, rfl, by rw [g.hK]; exact ha, by rw [← r.len, hk], ι, ρ, m, ds, rs, M, r, p⟩
  · rw [hl d ρ m fun ds e q => hd ⟨ds, e, q⟩] at p
    exact False.elim p
theorem set_ok {ι : Nat → Addr} {m : Mem} {H : Hp} {E : XK} {x y d : D} {o i v : V} {Q : Unit → (Nat → Addr) → Mem → Hp → Prop} {R : Hp → Prop} (M : RepM S ι H m) (rx : RepV S ι m.nx H x o) (ry : RepV S ι m.nx H y i) (rd : RepV S ι m.nx H d v)
    (p : PostG S ι m H E (setItemF x y d m) Q) (k : ∀ m1 H1, Step S ι m H ι m1 H1 → Q () ι m1 H1 → R H1) : rSetL o i v H R := by
  cases rx with
  | @ref n hn =>
    cases ry with
    | int j =>
      have p : PostG S ι m H E (match m.get n with
        | some (.lst ds) => (match L2.ixN ds.length j with | some z => .ok () (m.put n (.lst (ds.set z d))) | none => .bad)
        | _ => .bad) Q := p
      cases e : m.get n with
      | none => rw [e] at p; exact False.elim p
      | some u =>
        rw [e] at p
        cases u with
        | lst ds =>
          have p : PostG S ι m H E (match L2.ixN ds.length j with | some z => .ok () (m.put n (.lst (ds.set z d))) | none => .bad) Q := p
          obtain ⟨vs, h, r⟩ := M.ob n _ e
          cases e2 : L2.ixN ds.length j with
          | none => rw [e2] at p; exact False.elim p
          | some z =>
            rw [e2] at p
            have T := Step.put_lst M e (r.set z rd)
            exact ⟨_, vs, j, z, rfl, rfl, h, by rw [← r.len]; exact e2, k _ _ T (p _ _ T)⟩
        | _ => exact False.elim p
    | _ => exact False.elim p
  | _ => cases ry <;> exact False.elim p
theorem g_sub {o i : Expr} (ho : PE X o (evE S W fa)) (hi : PE X i (evE S W fb)) (hm : ∀ a b c p, i ≠ .Slice a b c p) : PG X (.Subscript o i pos) (evG S [] (tsubM fa fb)) := by
  refine pgI (pg_sub ho hi set_list (fun v => by cases i <;> first | rfl | exact absurd rfl (hm _ _ _ _))) fun v σ H Q ⟨ι, ρ, m, d, rs, M, rd, p⟩ => ?_
  have p := noX_of (E' := fun c d H' => W c d σ H') p
  refine evE_then rs M p fun x xv ι1 m1 H1 rs1 M1 T1 rx p1 => evE_then rs1 M1 p1 fun y yv ι2 m2 H2 rs2 M2 T2 ry p2 => ?_
  refine set_ok M2 (T2.repV M1 rx) ry (T2.repV M1 (T1.repV M rd)) p2.bind fun m3 H3 T3 ⟨M3, _, q⟩ => ?_
  exact PostG.ok M3 q _ (T3.repS M2 rs2) Out1.refl
end
/-! ## walks -/
def Src.ds : Src → List D
  | .items ds => ds
  | .held _ ds => ds
def Src.mem (s : Src) (m : Mem) : Mem := match s with
  | .items _ => m
  | .held n _ => match m.get n with
    | some (.lst ds) => m.put n (.rol ds)
    | _ => m
def Src.back (s : Src) (m m' : Mem) : Mem := match s with
  | .items _ => m'
  | .held n _ => match m.get n with
    | some (.lst ds) => m'.put n (.lst ds)
    | _ => m'
def Out.onMem {α : Type} (f : Mem → Mem) : Out α → Out α
  | .ok a m => .ok a (f m)
  | .exc x m => .exc x (f m)
  | .bad => .bad
section
variable {S : Sta} {ι : Nat → Addr} {m : Mem} {H : Hp}
theorem onSrc_eq {α : Type} {s : Src} {J : It} {f : List D → MV α} (h : SrcOk S ι m H s J) : onSrc s f m = (f s.ds (s.mem m)).onMem (s.back m) := by
  cases s with
  | items ds =>
    show f ds m = (f ds m).onMem fun m' => m'
    cases f ds m <;> rfl
  | held n ds =>
    obtain ⟨_, h⟩ := h
    unfold Mem.lst at h
    show holdL n (f ds) m = _
    unfold holdL Src.mem Src.back
    dsimp only
    cases e : m.get n with
    | none => rw [e] at h; cases h
    | some o =>
      cases o with
      | lst es =>
        dsimp only [Src.ds]
        cases f ds (m.put n (.rol es)) <;> rfl
      | rol es => show f ds m = (f ds m).onMem fun m' => m'; cases f ds m <;> rfl
      | kol es => show f ds m = (f ds m).onMem fun m' => m'; cases f ds m <;> rfl
      | scr es => show f ds m = (f ds m).onMem fun m' => m'; cases f ds m <;> rfl
theorem back_nx {s : Src} {m' : Mem} : (s.back m m').nx = m'.nx := by
  cases s with
  | items ds => rfl
  | held n ds =>
    unfold Src.back
    dsimp only
    split <;> rfl
theorem step_mem {s : Src} (M : RepM S ι H m) : Step S ι m H ι (s.mem m) H := by
  cases s with
  | items ds => exact Step.refl M
  | held n ds =>
    unfold Src.mem
    dsimp only
    split
    · rename_i e
      exact Step.hold M e
    · exact Step.refl M
theorem step_back {s : Src} {ι' : Nat → Addr} {m' : Mem} {H' : Hp} (M : RepM S ι H m) (T : Step S ι (s.mem m) H ι' m' H') : Step S ι m H ι' (s.back m m') H' := by
  cases s with
  | items ds => exact T
  | held n ds =>
    unfold Src.mem at T
    unfold Src.back
    dsimp only at T ⊢
    cases e : m.get n with
    | none => rw [e] at T; exact T
    | some o =>
      rw [e] at T
      cases o with
      | lst es => exact Step.let_go M e T
      | rol es => exact T
      | kol es => exact T
      | scr es => exact T
theorem iota_get : ∀ {k i : Nat} {lo : Int}, i < k → (iota lo k)[i]? = some (.int (lo + i))
  | k + 1, 0, lo, _ => by simp [iota]
  | k + 1, i + 1, lo, h => by
    have := iota_get (k := k) (i := i) (lo := lo + 1) (by omega)
    show (iota (lo + 1) k)[i]? = _
    rw [this, show lo + 1 + (i : Int) = lo + ((i + 1 : Nat) : Int) by omega]
theorem iota_len : ∀ {k : Nat} {lo : Int}, (iota lo k).length = k
  | 0, _ => rfl
  | k + 1, lo => by show (iota (lo + 1) k).length + 1 = _; rw [iota_len]
/-- the walk's turns, whatever is done meanwhile -/
theorem walk {s : Src} {J : It} (M : RepM S ι H m) (h : SrcOk S ι m H s J) {ι' : Nat → Addr} {m' : Mem} {H' : Hp} (T : Step S ι (s.mem m) H ι' m' H') (i : Nat) :
    (i < s.ds.length → J.go i H' ∧ ∀ x Hx, J.yld i H' x Hx → Hx = H' ∧ ∃ d, s.ds[i]? = some d ∧ RepV S ι' m'.nx H' d x) ∧ (s.ds.length ≤ i → J.stop i H') := by
  have byT : ∀ {a : Addr} {vs : List V} {ds : List D}, SqT S.K H' a vs → RepVs S ι' m'.nx H' ds vs → (i < ds.length → (Itt S.K a).go i H' ∧ ∀ x Hx, (Itt S.K a).yld i H' x Hx → Hx = H' ∧ ∃ d, ds[i]? = some d ∧ RepV S ι' m'.nx H' d x) ∧ (ds.length ≤ i → (Itt S.K a).stop i H') := fun {a vs ds} hs r => by
    refine ⟨fun hi => ?_, fun hi => ⟨vs, hs, by rw [← r.len]; exact hi⟩⟩
    obtain ⟨v, e1, e2⟩ := r.get i (List.getElem?_eq_getElem hi)
    refine ⟨⟨vs, v, hs, e1⟩, fun x Hx ⟨e, y⟩ => ⟨e, _, List.getElem?_eq_getElem hi, ?_⟩⟩
    have := y vs hs
    rw [e1] at this
    cases this
    exact e2
  have byL : ∀ {a : Addr} {vs : List V} {ds : List D}, SqL S.K H' a vs → RepVs S ι' m'.nx H' ds vs → (i < ds.length → (Itl S.K a).go i H' ∧ ∀ x Hx, (Itl S.K a).yld i H' x Hx → Hx = H' ∧ ∃ d, ds[i]? = some d ∧ RepV S ι' m'.nx H' d x) ∧ (ds.length ≤ i → (Itl S.K a).stop i H') := fun {a vs ds} hs r => by
    refine ⟨fun hi => ?_, fun hi => ⟨vs, hs, by rw [← r.len]; exact hi⟩⟩
    obtain ⟨v, e1, e2⟩ := r.get i (List.getElem?_eq_getElem hi)
    refine ⟨⟨vs, v, hs, e1⟩, fun x Hx ⟨e, y⟩ => ⟨e, _, List.getElem?_eq_getElem hi, ?_⟩⟩
    have := y vs hs
    rw [e1] at this
    cases this
    exact e2
  cases s with
  | items ds =>
    rcases h with ⟨a, vs, rfl, hs, r⟩ | ⟨lo, k, rfl, rfl⟩
    · exact byT (sqT_up hs (T.tups M a)) (T.repVs M r)
    · refine ⟨fun hi => ?_, fun hi => ?_⟩
      · have hi : i < k := by rw [show (Src.items (iota lo k)).ds = iota lo k from rfl, iota_len] at hi; exact hi
        refine ⟨hi, fun x Hx ⟨e, y⟩ => ⟨e, _, iota_get hi, ?_⟩⟩
        rw [y]
        exact .int _
      · have hi : k ≤ i := by rw [show (Src.items (iota lo k)).ds = iota lo k from rfl, iota_len] at hi; exact hi
        exact hi
  | held n ds =>
    obtain ⟨rfl, h⟩ := h
    unfold Mem.lst at h
    unfold Src.mem at T
    dsimp only at T
    cases e : m.get n with
    | none => rw [e] at h; cases h
    | some o =>
      rw [e] at h T
      cases o with
      | lst es =>
        cases h
        obtain ⟨vs, a, b, c⟩ := Step.held M e T
        exact byL (.of b) c
      | rol es =>
        cases h
        obtain ⟨vs, a, b⟩ := M.ob n _ e
        refine byL (vs := vs) ?_ (T.repVs M b)
        rcases a with a | ⟨ob, a⟩
        · refine .inl (.inl (T.keep _ _ a fun k ⟨es', e'⟩ z => ?_))
          have := M.inj k n _ _ e' e rfl rfl z
          rw [this, e] at e'
          cases e'
        · exact .inl (.inr ⟨ob, T.tups M _ _ a fun _ z => by cases z⟩)
      | kol es =>
        cases h
        obtain ⟨vs, a, b⟩ := M.ob n _ e
        exact byL (.inr a) (T.repVs M b)
      | scr ns =>
        cases h
        rcases M.ob n _ e with a | ⟨ob, a⟩
        · exact byL (.inr a) (ints_rep ns)
        · exact byL (.inl (.inr ⟨ob, T.tups M _ _ a fun _ z => by cases z⟩)) (ints_rep ns)
end
end Ev

set_option Elab.async false
set_option linter.all false
set_option maxRecDepth 100000
set_option maxHeartbeats 4000000
namespace Ev
open PySem PySem.Spec PyProof.Rows L2
/-! ## comprehensions -/
theorem getR_wipe {ρ : Rho} {i : Nat} {d : D} : ∀ {vs : List Nat}, getR (wipeR ρ vs) i = some d → getR ρ i = some d ∧ i ∉ vs
  | [], h => ⟨h, by simp⟩
  | v :: vs, h => by
    have key : ∀ (r : Rho) (v i : Nat), getR (r.set v none) i = some d → getR r i = some d ∧ i ≠ v := by
      intro r
      induction r with
      | nil => intro v i h; cases h
      | cons x r ih =>
        intro v i h
        cases v with
        | zero => cases i with
          | zero => cases h
          | succ i => exact ⟨h, by simp⟩
        | succ v => cases i with
          | zero => exact ⟨h, by simp⟩
          | succ i =>
            obtain ⟨a, b⟩ := ih v i h
            exact ⟨a, by omega⟩
    obtain ⟨h1, h2⟩ := key _ _ _ h
    obtain ⟨h3, h4⟩ := getR_wipe h1
    exact ⟨h3, by simp only [List.mem_cons, not_or]; exact ⟨h2, h4⟩⟩
theorem wipeR_len (ρ : Rho) : ∀ vs : List Nat, (wipeR ρ vs).length = ρ.length
  | [] => rfl
  | v :: vs => by unfold wipeR; rw [List.length_set, wipeR_len ρ vs]
theorem wipe_not {σ : L2.St} {i : Nat} : ∀ {vs : List Nat}, i ∉ vs → (wipe σ vs)[i]? = σ[i]?
  | [], _ => rfl
  | v :: vs, h => by
    simp only [List.mem_cons, not_or] at h
    unfold wipe
    rw [List.getElem?_set_ne (fun e => h.1 e.symm), wipe_not h.2]
theorem wipe_in {σ : L2.St} {i : Nat} : ∀ {vs : List Nat}, i ∈ vs → i < σ.length → (wipe σ vs)[i]? = some none
  | v :: vs, h, hl => by
    unfold wipe
    by_cases e : v = i
    · rw [e]; exact List.getElem?_set_self (by rw [wipe_length]; exact hl)
    · rw [List.getElem?_set_ne e]
      rcases List.mem_cons.mp h with z | z
      · exact absurd z.symm e
      · exact wipe_in z hl
theorem wipe_out {σ σ' : L2.St} {L vs : List Nat} (o : Out1 L (wipe σ vs) σ') (h : ∀ i ∈ L, i ∈ vs) : wipe σ' vs = wipe σ vs := by
  have hl : σ'.length = σ.length := by rw [o.len, wipe_length]
  apply List.ext_getElem?
  intro i
  by_cases hi : i ∈ vs
  · by_cases hk : i < σ.length
    · rw [wipe_in hi hk, wipe_in hi (by rw [hl]; exact hk)]
    · rw [List.getElem?_eq_none (by rw [wipe_length, hl]; omega), List.getElem?_eq_none (by rw [wipe_length]; omega)]
  · rw [wipe_not hi, o.out i fun z => hi (h i z)]
section
variable {S : Sta} {G : Glo} {F : Nat → List D → MV D} {n : Nat} {X : Cx} {W : WX}
theorem RepS.wipe {ι : Nat → Addr} {nx : Nat} {H : Hp} {ρ : Rho} {σ : L2.St} (r : RepS S ι nx H ρ σ) (vs : List Nat) : RepS S ι nx H (wipeR ρ vs) (L2.wipe σ vs) :=
  ⟨by rw [wipeR_len, wipe_length]; exact r.len, fun i d h => by
    obtain ⟨h1, h2⟩ := getR_wipe h
    obtain ⟨v, a, b⟩ := r.at_ i d h1
    exact ⟨v, by rw [wipe_not h2]; exact a, b⟩⟩
abbrev W0 : WX := fun _ _ _ _ => False
theorem takes0' {X : Cx} : Takes X W0 := takes0
/-- a block of the same def -/
theorem GC.blk (g : GC S G F n X W) (s : Shared) (H : Hp) (scope : Scope) (cenv : PySem.Env) (fp : List Addr) : GC S G F n (X.blk s H scope cenv fp) W0 :=
  ⟨g.nd, g.calm, g.room, g.guard, g.hK, takes0', g.gl, g.bl, g.kp, fun k ds m h => ⟨(g.fns k ds m h).ex⟩⟩
/-- nothing of the store lies at D -/
def NotAt (D : Addr) (ι : Nat → Addr) (m : Mem) : Prop := ∀ k o, m.get k = some o → o.inH = true → ι k ≠ D
theorem NotAt.step {D : Addr} {u : HO} {ι ι' : Nat → Addr} {m m' : Mem} {H H' : Hp} (h : NotAt D ι m) (hD : H D = some u) (T : Step S ι m H ι' m' H') : NotAt D ι' m' := fun k o e i z => by
  by_cases hk : k < m.nx
  · obtain ⟨o', e', i'⟩ := T.sub k o hk e i
    exact h k o' e' i' (by rw [← T.ext k hk]; exact z)
  · have := T.new k o (Nat.le_of_not_lt hk) e i
    rw [z, hD] at this
    cases this
theorem NotAt.keep {D : Addr} {u : HO} {ι ι' : Nat → Addr} {m m' : Mem} {H H' : Hp} (h : NotAt D ι m) (hD : H D = some u) (T : Step S ι m H ι' m' H') : H' D = some u :=
  T.keep D u hD fun k ⟨ds, e⟩ z => h k _ e rfl z
theorem up_at {D : Addr} {xs ys : List V} {H : Hp} (hD : H D = some (.lst xs)) : ∀ a u, H a = some u → (∀ xs, u ≠ .lst xs) → upd H D (.lst ys) a = some u := fun a u h hu => by
  rw [upd_ne (fun e => ?_)]
  · exact h
  · rw [e, hD] at h
    exact hu xs (Option.some.inj h).symm
/-- the list at D, which is not of the store, is written -/
theorem Step.side {D : Addr} {xs ys : List V} {ι ι' : Nat → Addr} {m m' : Mem} {H H' : Hp} (T : Step S ι m H ι' m' H') (hn : NotAt D ι' m') (h0 : H D = none) (hD : H' D = some (.lst xs)) : Step S ι m H ι' m' (upd H' D (.lst ys)) where
  nx := T.nx
  ext := T.ext
  new := T.new
  sub := T.sub
  subw := T.subw
  keep := fun b o h w => by rw [upd_ne (ne_of_none h h0)]; exact T.keep b o h w
  there := fun b h => by
    by_cases hb : b = D
    · rw [hb, upd_same]; simp
    · rw [upd_ne hb]; exact T.there b h
  mem := ⟨T.mem.lt, fun k o e => (T.mem.ob k o e).up (up_at hD) (fun _ _ => rfl) (Nat.le_refl _) (fun i => upd_ne (hn k o e i)), T.mem.inj⟩
/-- it comes into the store -/
theorem Step.adopt {D : Addr} {vs : List V} {ds : List Ev.D} {ι ι' : Nat → Addr} {m m' : Mem} {H H' : Hp} (T : Step S ι m H ι' m' H') (hn : NotAt D ι' m') (h0 : H D = none) (hD : H' D = some (.lst vs)) (r : RepVs S ι' m'.nx H' ds vs) : Step S ι m H (bump ι' m'.nx D) (m'.new (.lst ds)) H' := by
  have old : ∀ k o, k ≠ m'.nx → (m'.new (.lst ds)).get k = some o → m'.get k = some o := fun k o hk e => by rw [look_new, if_neg hk] at e; exact e
  have hι : ∀ k, k < m'.nx → bump ι' m'.nx D k = ι' k := fun k h => bump_ne (Nat.ne_of_lt h)
  refine ⟨Nat.le_succ_of_le T.nx, fun k h => by rw [hι k (Nat.lt_of_lt_of_le h T.nx)]; exact T.ext k h, fun k o h e i => ?_, fun k o h e i => T.sub k o h (old k o (by have := T.nx; omega) e) i, fun k h ⟨es, e⟩ => T.subw k h ⟨es, old k _ (by have := T.nx; omega) e⟩, T.keep, T.there, fun k o e => ?_, fun k o e => ?_, fun k k' o o' e e' i i' z => ?_⟩
  · by_cases hk : k = m'.nx
    · rw [hk, bump_same]; exact h0
    · rw [bump_ne hk]; exact T.new k o h (old k o hk e) i
  · by_cases hk : k = m'.nx
    · rw [hk]; exact Nat.lt_succ_self _
    · exact Nat.lt_succ_of_lt (T.mem.lt k o (old k o hk e))
  · by_cases hk : k = m'.nx
    · rw [look_new, if_pos hk] at e
      cases e
      rw [hk, bump_same]
      exact ⟨vs, hD, r.up (fun a u h _ => h) hι (Nat.le_succ _)⟩
    · rw [bump_ne hk]
      exact (T.mem.ob k o (old k o hk e)).up (fun a u h _ => h) hι (Nat.le_succ _) (fun _ => rfl)
  · by_cases hk : k = m'.nx <;> by_cases hk' : k' = m'.nx
    · rw [hk, hk']
    · rw [hk, bump_same, bump_ne hk'] at z
      exact absurd z.symm (hn k' o' (old k' o' hk' e') i')
    · rw [hk', bump_same, bump_ne hk] at z
      exact absurd z (hn k o (old k o hk e) i)
    · rw [bump_ne hk, bump_ne hk'] at z
      exact T.mem.inj k k' o o' (old k o hk e) (old k' o' hk' e') i i' z
theorem noX_ok {α : Type} {o : Out α} {a : α} {m : Mem} (h : noX o = .ok a m) : o = .ok a m := by
  cases o with
  | ok b m' => exact h
  | _ => cases h
/-- a comprehension's loop that comes through: one turn -/
theorem compL_ok {asg : D → MV Rho} {tst : Rho → MV Bool} {elt : Rho → MV D} : ∀ {ds acc res : List D} {m mf : Mem}, compL asg tst elt ds acc m = .ok res mf → acc.length ≤ res.length ∧ (match ds with
    | [] => res = acc.reverse ∧ mf = m
    | d :: r => ∃ ρ m1 b m2, asg d m = .ok ρ m1 ∧ tst ρ m1 = .ok b m2 ∧ (match b with
      | true => ∃ x m3, elt ρ m2 = .ok x m3 ∧ compL asg tst elt r (x :: acc) m3 = .ok res mf
      | false => compL asg tst elt r acc m2 = .ok res mf))
  | [], acc, res, m, mf, h => by
    cases h
    exact ⟨by rw [List.length_reverse]; exact Nat.le_refl _, rfl, rfl⟩
  | d :: r, acc, res, m, mf, h => by
    unfold compL at h
    obtain ⟨ρ, m1, h1, h⟩ := bind_ok h
    obtain ⟨b, m2, h2, h⟩ := bind_ok h
    cases b with
    | true =>
      obtain ⟨x, m3, h3, h⟩ := bind_ok h
      have := (compL_ok h).1
      exact ⟨by rw [List.length_cons] at this; omega, ρ, m1, true, m2, h1, h2, x, m3, h3, h⟩
    | false => exact ⟨(compL_ok h).1, ρ, m1, false, m2, h1, h2, h⟩
theorem lc_go {own : List (Str × Nat)} {L : List Nat} {ft : D → Rho → MV Rho} {fs : Rho → MV Src} {fc fe : Rho → MV D} (hL : ∀ i ∈ L, i ∈ own.map (·.2)) {σ : L2.St} {H : Hp} {Q : VK} (w : evE S W (compM (own.map (·.2)) ft fs fc fe) σ H Q) :
    tLc (evI S W fs) (evG S L ft) (evB S W0 (testM fc)) (evE S W0 fe) (own.map (·.2)) σ H Q := by
  obtain ⟨ι, ρ, m, rs, M, p⟩ := w
  refine ⟨ι, ρ, m, rs, M, p.bind.imp fun src ι1 m1 H1 T1 ⟨M1, _, q⟩ J hJ D hD => ?_⟩
  generalize hvs : own.map (·.2) = vs at *
  have rs1 := T1.repS M rs
  -- the outcome
  rw [onSrc_eq hJ] at q
  obtain ⟨res, mf, hres⟩ : ∃ res mf, compL (fun d m => ft d (wipeR ρ vs) m) (testM fc) fe src.ds [] (src.mem m1) = .ok res mf := by
    cases e : compL (fun d m => ft d (wipeR ρ vs) m) (testM fc) fe src.ds [] (src.mem m1) with
    | ok res mf => exact ⟨res, mf, rfl⟩
    | exc x mf => rw [e] at q; exact False.elim q
    | bad => rw [e] at q; exact False.elim q
  rw [hres] at q
  have q : PostG S ι1 m1 H1 (fun c d H' => W c d σ H') (newL res (src.back m1 mf)) fun d ι' m' H' => ∀ v, RepV S ι' m'.nx H' d v → Q v H' := q
  have hz : res.length ≤ 16000000 := by
    unfold newL at q
    cases e : Nat.ble res.length 16000000 with
    | true => exact Nat.le_of_ble_eq_true e
    | false => rw [e] at q; exact False.elim q
  have q2 : ∀ ι' H', Step S ι1 m1 H1 ι' ((src.back m1 mf).new (.lst res)) H' → ∀ v, RepV S ι' ((src.back m1 mf).new (.lst res)).nx H' (.ref (src.back m1 mf).nx) v → Q v H' := by
    unfold newL at q
    rw [show Nat.ble res.length 16000000 = true from Nat.ble_eq_true_of_le hz] at q
    exact q
  have T0 := Step.laid (step_mem (s := src) M1).mem hD (u := .lst [])
  -- the invariant
  let P : Nat → Hp → Prop := fun i Hc => i ≤ src.ds.length ∧ ∃ ι' m' acc xs, Step S ι1 (src.mem m1) H1 ι' m' Hc ∧ NotAt D ι' m' ∧ Hc D = some (.lst xs) ∧ RepVs S ι' m'.nx Hc acc.reverse xs ∧ compL (fun d m => ft d (wipeR ρ vs) m) (testM fc) fe (src.ds.drop i) acc m' = .ok res mf
  have start : P 0 (upd H1 D (.lst [])) := ⟨Nat.zero_le _, ι1, src.mem m1, [], [], T0, fun k o e i z => (((step_mem (s := src) M1).mem).ob k o e).hin i (by rw [z]; exact hD), upd_same, .nil, hres⟩
  refine ⟨fun i k Hc => k = src.ds.length - i ∧ P i Hc, ⟨src.ds.length, by simp, start⟩, ?_⟩
  rintro i k Hc ⟨rfl, hi, ι', m', acc, xs, T, nD, hDc, r, hc⟩
  have wk := walk M1 hJ T i
  by_cases hlt : i < src.ds.length
  · refine .inr ⟨(wk.1 hlt).1, P (i + 1), fun H' p' => ⟨src.ds.length - (i + 1), by omega, rfl, p'⟩, fun x Hx y => ?_⟩
    obtain ⟨rfl, d, hd, rd⟩ := (wk.1 hlt).2 x Hx y
    have hdrop : src.ds.drop i = d :: src.ds.drop (i + 1) := by
      rw [List.drop_eq_getElem_cons hlt]
      have : src.ds[i] = d := by
        have h2 := List.getElem?_eq_getElem hlt
        rw [h2] at hd
        exact Option.some.inj hd
      rw [this]
    rw [hdrop] at hc
    obtain ⟨hacc, ρ1, m3, b, m4, e1, e2, e3⟩ := compL_ok hc
    have Tm := step_mem (s := src) M1
    have rsc : RepS S ι' m'.nx Hx (wipeR ρ vs) (L2.wipe σ vs) := ((Tm.trans T).repS M1 rs1).wipe vs
    refine ⟨ι', wipeR ρ vs, m', d, rsc, T.mem, rd, ?_⟩
    rw [e1]
    refine fun ι3 H3 T3 σ2 rs2 o2 => ⟨wipe_out o2 hL, ι3, ρ1, m3, rs2, T3.mem, ?_⟩
    rw [e2]
    refine fun ι4 H4 T4 => ?_
    have T34 := T3.trans T4
    cases b with
    | false =>
      have hD4 := nD.keep hDc T34
      exact ⟨by omega, ι4, m4, acc, xs, T.trans T34, nD.step hDc T34, hD4, T34.repVs T.mem r, e3⟩
    | true =>
      obtain ⟨y, m5, e3, e4⟩ := e3
      refine ⟨ι4, ρ1, m4, T4.repS T3.mem rs2, T4.mem, ?_⟩
      rw [e3]
      refine fun ι5 H5 T5 yv ry => ?_
      have T35 := T34.trans T5
      have hD5 := nD.keep hDc T35
      have r5 := T35.repVs T.mem r
      have nD5 := nD.step hDc T35
      have hsz := (compL_ok e4).1
      refine ⟨xs, hD5, ?_, by omega, ι5, m5, y :: acc, xs ++ [yv], (T.trans T35).side nD5 hD hD5, nD5, upd_same, ?_, e4⟩
      · have h1 := r.len
        rw [List.length_reverse] at h1
        rw [List.length_cons] at hsz
        rw [← h1, sizeLine_eq]
        omega
      · rw [List.reverse_cons]
        exact (r5.app (.cons ry .nil)).up (up_at hD5) (fun _ _ => rfl) (Nat.le_refl _)
  · have e : i = src.ds.length := by omega
    refine .inl ⟨wk.2 (by omega), ?_⟩
    rw [e, List.drop_length] at hc
    obtain ⟨_, hr, hm⟩ := compL_ok hc
    rw [hr, hm] at q2
    have TB := step_back (s := src) M1 T
    have nB : NotAt D ι' (src.back m1 m') := by
      intro k o e i z
      by_cases hk : k < m1.nx
      · obtain ⟨o', e', i'⟩ := TB.sub k o hk e i
        rw [TB.ext k hk] at z
        exact (M1.ob k o' e').hin i' (by rw [z]; exact hD)
      · have hget : ∃ o', m'.get k = some o' ∧ o'.inH = true := by
          cases src with
          | items ds => exact ⟨o, e, i⟩
          | held n ds =>
            unfold Src.back at e
            dsimp only at e
            split at e
            · rename_i es he
              rw [get_put] at e
              split at e
              · rename_i hkn
                rw [hkn] at hk
                exact absurd (M1.lt n _ he) hk
              · exact ⟨o, e, i⟩
            · exact ⟨o, e, i⟩
        obtain ⟨o', e', i'⟩ := hget
        exact nD k o' e' i' z
    have r' : RepVs S ι' (src.back m1 m').nx Hc acc.reverse xs := by rw [back_nx]; exact r
    have A := TB.adopt nB hD hDc r'
    have rv : RepV S (bump ι' (src.back m1 m').nx D) ((src.back m1 m').new (.lst acc.reverse)).nx Hc (.ref (src.back m1 m').nx) (.ref (bump ι' (src.back m1 m').nx D (src.back m1 m').nx)) := .ref (Nat.lt_succ_self _)
    rw [bump_same] at rv
    exact q2 _ _ A _ rv
theorem s_comp {elt tg iter : Expr} {ifs : List Expr} {scope : Scope} {own : List (Str × Nat)} {pos : Pos} {L : List Nat} {ft : D → Rho → MV Rho} {fs : Rho → MV Src} {fc fe : Rho → MV D} (g : GC S G F n X W)
    (hi : PI X tg iter (evI S W fs)) (ok : BlkOk X.N X.env.scope scope own) (hL : ∀ i ∈ L, i ∈ own.map (·.2))
    (hg : ∀ (s : Shared) (H : Hp) (C : Addr) (cl : List (Str × Addr)) (fp : List Addr), PG (X.blk s H scope (compEnvC scope cl C X.env) fp) tg (evG S L ft))
    (ht : ∀ (s : Shared) (H : Hp) (C : Addr) (cl : List (Str × Addr)) (fp : List Addr), PTs (X.blk s H scope (compEnvC scope cl C X.env) fp) ifs (evB S W0 (testM fc)))
    (he : ∀ (s : Shared) (H : Hp) (C : Addr) (cl : List (Str × Addr)) (fp : List Addr), PE (X.blk s H scope (compEnvC scope cl C X.env) fp) elt (evE S W0 fe))
    (hs : ∀ x, foldedSetIterable iter X.env x = pure x) : PE X (.ListComp elt [⟨tg, iter, ifs, 0⟩] scope pos) (evE S W (compM (own.map (·.2)) ft fs fc fe)) := by
  exact peI (pe_lc g.calm g.nd hi ok hg ht he hs) fun σ H Q w => lc_go hL w
end
end Ev

set_option Elab.async false
set_option linter.all false
set_option maxRecDepth 100000
set_option maxHeartbeats 4000000
namespace Ev
open PySem PySem.Spec PyProof.Rows L2

/-! ## the language says what the text does: expressions -/
theorem isTrue_ite {M : PySem.Model} {A : Around} {env : PySem.Env} {E : Value → Shared → Prop} {s : Shared} {c a b : Expr} {pos : Pos} {whole : Sem Value} {Q : Bool → Shared → Prop}
    (h : wpAny M A (isTrue c env (eval c env)) (fun t s1 => if t = true then wpAny M A (isTrue a env (eval a env)) Q E s1 else wpAny M A (isTrue b env (eval b env)) Q E s1) E s) : wpAny M A (isTrue (.IfExp c a b pos) env whole) Q E s := by
  show wpAny M A (do if ← isTrue c env (eval c env) then isTrue a env (eval a env) else isTrue b env (eval b env)) Q E s
  refine wpAny_bind (wpAny_mono h (fun t s' h' => ?_) fun _ _ x => x)
  cases t <;> exact h'
section
variable {S : Sta} {G : Glo} {F : Nat → List D → MV D} {n : Nat} {X : Cx} {W : WX} {pos : Pos}
theorem t_ite {c a b : Expr} {fa fb fc : Rho → MV D} (hc : PT X c (evB S W (testM fc))) (ha : PT X a (evB S W (testM fa))) (hb : PT X b (evB S W (testM fb))) : PT X (.IfExp c a b pos) (evB S W (testM (iteM fc fa fb))) := by
  refine ⟨fun pins s σ H Q I ⟨ι, ρ, m, rs, M, p⟩ => ?_⟩
  have e : testM (iteM fc fa fb) ρ m = (fc ρ m).bind fun x m1 => sel x (testM fa ρ m1) (testM fb ρ m1) := by
    unfold testM iteM
    rw [bind_assoc]
    congr 1
    funext x m1
    rw [sel_bind]
  rw [e] at p
  have h : evB S W (testM fc) σ H fun t H1 => if t = true then evB S W (testM fa) σ H1 Q else evB S W (testM fb) σ H1 Q := by
    refine ⟨ι, ρ, m, rs, M, test_sel (A := testM fa ρ) (B := testM fb ρ) p fun t ι1 m1 H1 T q => ?_⟩
    cases t with
    | true => exact ⟨ι1, ρ, m1, T.repS M rs, T.mem, q⟩
    | false => exact ⟨ι1, ρ, m1, T.repS M rs, T.mem, q⟩
  refine isTrue_ite (thn (hc.run pins s σ H _ I h) fun t s1 ⟨H1, I1, q⟩ => ?_)
  cases t with
  | true => exact ha.run pins s1 σ H1 Q I1 q
  | false => exact hb.run pins s1 σ H1 Q I1 q
def Both (S : Sta) (F : Nat → List D → MV D) (X : Cx) (W : WX) (e : Expr) (e' : E) : Prop := PE X e (evE S W (den F e').e) ∧ PT X e (evB S W (testM (den F e').e))
theorem ord {e : Expr} {e' : E} (h : PE X e (evE S W (den F e').e)) (he : ∀ whole, isTrue e X.env whole = (do let v ← whole; standAt e.pos; holding [v] (truthy v)) := by intro _; rfl) : Both S F X W e e' := ⟨h, t_val h he⟩
def Tr (S : Sta) (F : Nat → List D → MV D) (X : Cx) (W : WX) (tr : Expr → Option E) : Prop := ∀ e e', tr e = some e' → Both S F X W e e'
section
variable {tr : Expr → Option E} (T : Tr S F X W tr)
include T
theorem trL_ok : ∀ {es : List Expr} {a : E}, trL tr es = some a → PA X es (evA S W (den F a).e) ∧ TupLen (den F a).e es.length ∧ es.all plainX = true
  | [], a, h => by cases h; exact ⟨s_nil, tupLen_nil, rfl⟩
  | e :: es, a, h => by
    obtain ⟨hp, h⟩ := onB_some h
    obtain ⟨x, hx, h⟩ := Option.bind_eq_some_iff.mp h
    obtain ⟨y, hy, h⟩ := Option.bind_eq_some_iff.mp h
    cases h
    obtain ⟨h1, h2, h3⟩ := trL_ok hy
    exact ⟨s_cons (T _ _ hx).1 h1 hp, tupLen_cons h2, by rw [List.all_cons, hp, h3] <;> rfl⟩
theorem trB_and : ∀ {vs : List Expr} {a : E}, trB tr .band vs = some a → PE X (.BoolOp .And vs pos) (evE S W (den F a).e) ∧ PW X (.BoolOp .And vs pos) (evB S W (testM (den F a).e))
  | [], a, h => by cases h
  | [e], a, h => by
    obtain ⟨x, hx, h⟩ := Option.bind_eq_some_iff.mp h
    cases h
    exact ⟨pe_one (T _ _ hx).1, w_and1 (T _ _ hx).2⟩
  | e :: e2 :: es, a, h => by
    obtain ⟨x, hx, h⟩ := Option.bind_eq_some_iff.mp h
    obtain ⟨y, hy, h⟩ := Option.bind_eq_some_iff.mp h
    cases h
    obtain ⟨h1, h2⟩ := trB_and hy
    exact ⟨s_and (T _ _ hx).1 h1, w_and (T _ _ hx).2 h2⟩
theorem trB_or : ∀ {vs : List Expr} {a : E}, trB tr .bor vs = some a → PE X (.BoolOp .Or vs pos) (evE S W (den F a).e) ∧ PW X (.BoolOp .Or vs pos) (evB S W (testM (den F a).e))
  | [], a, h => by cases h
  | [e], a, h => by
    obtain ⟨x, hx, h⟩ := Option.bind_eq_some_iff.mp h
    cases h
    exact ⟨pe_one (T _ _ hx).1, w_or1 (T _ _ hx).2⟩
  | e :: e2 :: es, a, h => by
    obtain ⟨x, hx, h⟩ := Option.bind_eq_some_iff.mp h
    obtain ⟨y, hy, h⟩ := Option.bind_eq_some_iff.mp h
    cases h
    obtain ⟨h1, h2⟩ := trB_or hy
    exact ⟨s_or (T _ _ hx).1 h1, w_or (T _ _ hx).2 h2⟩
theorem fold_of {e : Expr} (h : isSet e = false) (env : PySem.Env) (x : Value) : foldedSetIterable e env x = pure x := by cases e <;> first | rfl | cases h
theorem notSlice {e : Expr} (h : isSlice e = false) : ∀ a b c p, e ≠ .Slice a b c p := fun a b c p z => by rw [z] at h; cases h
theorem notSet {e : Expr} (h : isSet e = false) : ∀ a b c, e ≠ .Set a b c := fun a b c z => by rw [z] at h; cases h
theorem nob {b : Bool} (h : (!b) = true) : b = false := by cases b <;> first | rfl | cases h
omit T in
theorem trTs_ok {tt : Expr → Option E} (T : ∀ e t, tt e = some t → PG X e (evG S t.slots (den F t).t)) : ∀ {es : List Expr} {t : E}, trTs tt es = some t → PGs X es (evGs S t.slots (den F t).t) ∧ TgtLen (den F t).t es.length ∧ es.all plainX = true
  | [], t, h => by cases h; exact ⟨g_nil, tgtLen_nil, rfl⟩
  | e :: es, t, h => by
    obtain ⟨hp, h⟩ := onB_some h
    obtain ⟨x, hx, h⟩ := Option.bind_eq_some_iff.mp h
    obtain ⟨y, hy, h⟩ := Option.bind_eq_some_iff.mp h
    cases h
    obtain ⟨h1, h2, h3⟩ := trTs_ok T hy
    exact ⟨g_cons (T _ _ hx) h1 hp, tgtLen_cons h2, by rw [List.all_cons, hp, h3] <;> rfl⟩
theorem trT_ok (g : GC S G F n X W) {fb : Str → Bool} (hf : ∀ x, fb x = true → X.fn x = true) : ∀ k {e : Expr} {t : E}, trT tr fb X.N X.env.scope k e = some t → PG X e (evG S t.slots (den F t).t)
  | 0, _, _, h => by cases h
  | k + 1, e, t, h => by
    unfold trT at h
    split at h
    · split at h
      · rename_i e1
        obtain ⟨i, hi, h⟩ := Option.bind_eq_some_iff.mp h
        cases h
        exact g_name g (ixOf0 hi) (.inl e1) (.inr e1)
      · rename_i e1
        obtain ⟨hb, h⟩ := onB_some h
        obtain ⟨i, hi, h⟩ := Option.bind_eq_some_iff.mp h
        cases h
        exact g_name g (ixOf0 hi) (.inr e1) (.inl (hf _ hb))
      · cases h
    · obtain ⟨t1, h1, h⟩ := Option.bind_eq_some_iff.mp h
      cases h
      obtain ⟨h2, h3, h4⟩ := trTs_ok (fun e t z => trT_ok g hf k z) h1
      exact g_tup g h2 h3 h4
    · obtain ⟨hb, h⟩ := onB_some h
      obtain ⟨x, hx, h⟩ := Option.bind_eq_some_iff.mp h
      obtain ⟨y, hy, h⟩ := Option.bind_eq_some_iff.mp h
      cases h
      exact g_sub (T _ _ hx).1 (T _ _ hy).1 (notSlice T (nob T hb))
    · cases h
theorem val_s {t : E} (h : t.val = true) : (den F t).s = (asV (den F t).e).s := by cases t <;> first | rfl | cases h
theorem trV_ok (g : GC S G F n X W) {tg e : Expr} {t : E} (h : trV tr e = some t) : PI X tg e (evI S W (den F t).s) ∧ ∀ x, foldedSetIterable e X.env x = pure x := by
  obtain ⟨hs, h⟩ := onB_some h
  obtain ⟨x, hx, h⟩ := Option.bind_eq_some_iff.mp h
  obtain ⟨hv, h⟩ := onB_some h
  cases h
  exact ⟨by rw [val_s T hv]; exact i_val g (T _ _ hx).1, fold_of T (nob T hs) X.env⟩
theorem trI_ok (g : GC S G F n X W) {tg e : Expr} {t : E} (h : trI tr G X.env.scope e = some t) : PI X tg e (evI S W (den F t).s) ∧ ∀ x, foldedSetIterable e X.env x = pure x := by
  unfold trI at h
  split at h
  · rename_i f p as q
    split at h
    · rename_i hd
      have hd := of_decide_eq_true hd
      subst hd
      obtain ⟨hb, h⟩ := onB_some h
      rw [Bool.and_eq_true] at hb
      have hg := glB_ok hb.1
      have hm := g.bl _ hb.2
      split at h
      · obtain ⟨hp, h⟩ := onB_some h
        obtain ⟨x, hx, h⟩ := Option.bind_eq_some_iff.mp h
        cases h
        exact ⟨i_rng1 hg hm (T _ _ hx).1 hp, fun _ => rfl⟩
      · obtain ⟨hp, h⟩ := onB_some h
        rw [Bool.and_eq_true] at hp
        obtain ⟨x, hx, h⟩ := Option.bind_eq_some_iff.mp h
        obtain ⟨y, hy, h⟩ := Option.bind_eq_some_iff.mp h
        cases h
        exact ⟨i_rng2 hg hm (T _ _ hx).1 (T _ _ hy).1 hp.1 hp.2, fun _ => rfl⟩
      · cases h
    · exact trV_ok T g h
  · exact trV_ok T g h
end
/-! ### names -/
theorem ty_repS {t : Ty} {ι : Nat → Addr} {nx : Nat} {H : Hp} : RepV S ι nx H (.ty t) (.ty t.nm) := .ty t
theorem nodun_ok {x : Str} (h : nodun x = true) : (x == ("__debug__" : Str)) = false ∧ (x == ("__classdict__" : Str)) = false ∧ x ≠ "__name__" := by
  unfold nodun at h
  simp only [Bool.and_eq_true, Bool.not_eq_true', decide_eq_false_iff_not] at h
  exact ⟨h.1.1, h.1.2, h.2⟩
theorem tyOfN_ok {f : Str} {t : Ty} (h : tyOfN f = some t) : f = Str.ofString t.nm ∧ t ∈ tyAll := by
  have h1 := List.find?_some h
  exact ⟨of_decide_eq_true h1, List.mem_of_find?_eq_some h⟩
theorem trName_ok (g : GC S G F n X W) {x : Str} {a : E} (h : trName G X.N X.env.scope x = some a) : PE X (.Name x pos) (evE S W (den F a).e) := by
  obtain ⟨hd, h⟩ := onB_some h
  obtain ⟨d1, d2, d3⟩ := nodun_ok hd
  split at h
  · rename_i hv
    obtain ⟨i, hi, h⟩ := Option.bind_eq_some_iff.mp h
    cases h
    exact s_var g (ixOf0 hi) (vis_ok hv) d1 d2
  · obtain ⟨hg, h⟩ := onB_some h
    have hg := glB_ok hg
    split at h
    · rename_i d e
      cases h
      obtain ⟨u, v, h1, h2, h3⟩ := g.gl x d e
      exact s_const (pe_glob hg h1 h2 d1) h3
    · obtain ⟨hb, h⟩ := onB_some h
      have hm := g.bl _ hb
      obtain ⟨t, ht, h⟩ := Option.bind_eq_some_iff.mp h
      cases h
      obtain ⟨e, hmem⟩ := tyOfN_ok ht
      have key : ∃ u, bootBuiltins x = some u ∧ RelV (.ty t.nm) u := by
        subst e
        cases t with
        | nonety => simp [tyAll] at hmem
        | _ => exact ⟨_, rfl, rfl⟩
      obtain ⟨u, h1, h2⟩ := key
      exact s_const (pe_bltn hg hm h1 h2 d3 d1) fun ι nx H => .ty t
theorem nil_of {tr : Expr → Option E} {a : E} (h : trL tr [] = some a) : a = .nil := by cases h; rfl
theorem trCall_ok (g : GC S G F n X W) {tr : Expr → Option E} (T : Tr S F X W tr) {x : Str} {p : Pos} {es : List Expr} {a c : E} (ha : trL tr es = some a) (h : trCall G X.N X.env.scope x es.length a = some c) : PE X (.Call (.Name x p) es [] pos) (evE S W (den F c).e) := by
  obtain ⟨hd, h⟩ := onB_some h
  obtain ⟨d1, d2, d3⟩ := nodun_ok hd
  obtain ⟨pa, hl, hp⟩ := trL_ok T ha
  split at h
  · rename_i hv
    obtain ⟨i, hi, h⟩ := Option.bind_eq_some_iff.mp h
    cases h
    have pv : ∀ pos, PE X (.Name x pos) (evE S W (den F (.var i)).e) := fun pos => s_var g (ixOf0 hi) (vis_ok hv) d1 d2
    cases es with
    | nil => rw [nil_of ha]; exact s_callv0 g pv
    | cons e es => exact s_callv g pv pa hl hp
  · obtain ⟨hg, h⟩ := onB_some h
    have hg := glB_ok hg
    split at h
    · rename_i d e
      split at h
      · rename_i k
        cases h
        obtain ⟨u, v, h1, h2, h3⟩ := g.gl x _ e
        have r := h3 (fun _ => 0) 0 (fun _ => none)
        cases r
        cases h2
        cases es with
        | nil => rw [nil_of ha]; exact s_call0 g hg h1 d1
        | cons e es => exact s_call g hg h1 d1 pa hl hp
      · cases h
    · obtain ⟨hb, h⟩ := onB_some h
      rw [Bool.and_eq_true] at hb
      obtain ⟨b, hbl, h⟩ := Option.bind_eq_some_iff.mp h
      cases h
      have e := bltOf_ok hbl
      subst e
      cases es with
      | nil => exact absurd hb.2 (by decide)
      | cons e es => exact s_blt g hg (g.bl _ hb.1) pa hl hp
theorem trP_ok {tr : Expr → Option E} (T : Tr S F X W tr) : ∀ {lo : Option Expr} {l : E}, trP tr lo = some l → Part S W X lo (partM l.isNo (den F l).e)
  | none, l, h => by cases h; exact part_none
  | some e, l, h => by
    obtain ⟨x, hx, h⟩ := Option.bind_eq_some_iff.mp h
    obtain ⟨hn, h⟩ := onB_some h
    cases h
    have : l.isNo = false := by cases e : l.isNo with | false => rfl | true => rw [e] at hn; cases hn
    rw [this]
    exact part_some (T _ _ hx).1
theorem constD_ok {c : Const} {d : D} {j : Nat} (h : constD c = some d) : PE X (.Constant c j pos) (evE S W fun _ => okk d) := by
  cases c <;> cases h
  · exact s_const pe_non fun _ _ _ => .non
  · exact s_const pe_bl fun _ _ _ => .bl _
  · exact s_const pe_int fun _ _ _ => .int _
  · exact s_const pe_str fun _ _ _ => .str _
theorem trE_ok : ∀ k {X : Cx} {W : WX}, GC S G F n X W → Tr S F X W (trE G X.N k X.env.scope)
  | 0, _, _, _, _, _, h => by cases h
  | k + 1, X, W, g, e, e', h => by
    have T := trE_ok k g
    unfold trE at h
    split at h
    · obtain ⟨d, hd, h⟩ := Option.bind_eq_some_iff.mp h
      cases h
      exact ord (constD_ok hd)
    · exact ord (trName_ok g h)
    · obtain ⟨hz, h⟩ := onB_some h
      obtain ⟨a, ha, h⟩ := Option.bind_eq_some_iff.mp h
      cases h
      obtain ⟨pa, hl, _⟩ := trL_ok T ha
      exact ord (s_tup pa hl (Nat.le_of_ble_eq_true hz))
    · obtain ⟨a, ha, h⟩ := Option.bind_eq_some_iff.mp h
      cases h
      obtain ⟨pa, hl, _⟩ := trL_ok T ha
      exact ord (s_lst pa hl)
    · obtain ⟨o, ho, h⟩ := Option.bind_eq_some_iff.mp h
      obtain ⟨x, hx, h⟩ := Option.bind_eq_some_iff.mp h
      obtain ⟨y, hy, h⟩ := Option.bind_eq_some_iff.mp h
      cases h
      rw [opOf_ok ho]
      exact ord (s_bin g o (T _ _ hx).1 (T _ _ hy).1)
    · split at h
      · obtain ⟨x, hx, h⟩ := Option.bind_eq_some_iff.mp h
        cases h
        exact ord (s_neg (T _ _ hx).1)
      · obtain ⟨x, hx, h⟩ := Option.bind_eq_some_iff.mp h
        cases h
        exact ⟨s_not (T _ _ hx).1, t_not (T _ _ hx).2⟩
      · cases h
    · split at h
      · rename_i o b
        obtain ⟨hs, h⟩ := onB_some h
        obtain ⟨x, hx, h⟩ := Option.bind_eq_some_iff.mp h
        obtain ⟨y, hy, h⟩ := Option.bind_eq_some_iff.mp h
        cases h
        rw [copOf_ok o]
        have := notSet T (nob T hs)
        have e : copOf (copOf o).py = copOf o := by cases o <;> rfl
        rw [e]
        exact ⟨s_cmp g _ (T _ _ hx).1 (T _ _ hy).1 this, t_cmp g _ (T _ _ hx).1 (T _ _ hy).1 this⟩
      · rename_i o o' b c
        obtain ⟨hs, h⟩ := onB_some h
        obtain ⟨x, hx, h⟩ := Option.bind_eq_some_iff.mp h
        obtain ⟨y, hy, h⟩ := Option.bind_eq_some_iff.mp h
        obtain ⟨z, hz, h⟩ := Option.bind_eq_some_iff.mp h
        cases h
        have := notSet T (nob T hs)
        have e : ∀ o, copOf (copOf o).py = copOf o := fun o => by cases o <;> rfl
        rw [copOf_ok o, copOf_ok o', e, e]
        exact ⟨s_chain g _ _ (T _ _ hx).1 (T _ _ hy).1 (T _ _ hz).1 this, t_chain g _ _ (T _ _ hx).1 (T _ _ hy).1 (T _ _ hz).1 this⟩
      · cases h
    · split at h
      · obtain ⟨h1, h2⟩ := trB_and T h
        exact ⟨h1, h2.pt⟩
      · obtain ⟨h1, h2⟩ := trB_or T h
        exact ⟨h1, h2.pt⟩
    · obtain ⟨x, hx, h⟩ := Option.bind_eq_some_iff.mp h
      obtain ⟨y, hy, h⟩ := Option.bind_eq_some_iff.mp h
      obtain ⟨z, hz, h⟩ := Option.bind_eq_some_iff.mp h
      cases h
      exact ⟨s_ite (T _ _ hx).2 (T _ _ hy).1 (T _ _ hz).1, t_ite (T _ _ hx).2 (T _ _ hy).2 (T _ _ hz).2⟩
    · split at h
      · obtain ⟨a, ha, h⟩ := Option.bind_eq_some_iff.mp h
        exact ord (trCall_ok g T ha h)
      · cases h
    · obtain ⟨x, hx, h⟩ := Option.bind_eq_some_iff.mp h
      split at h
      · obtain ⟨y, hy, h⟩ := Option.bind_eq_some_iff.mp h
        obtain ⟨z, hz, h⟩ := Option.bind_eq_some_iff.mp h
        cases h
        exact ord (s_slice g (T _ _ hx).1 (trP_ok T hy) (trP_ok T hz))
      · obtain ⟨hb, h⟩ := onB_some h
        obtain ⟨y, hy, h⟩ := Option.bind_eq_some_iff.mp h
        cases h
        exact ord (s_ix g (T _ _ hx).1 (T _ _ hy).1 fun l u p => notSlice T (nob T hb) l u none p)
    · rename_i elt gens scope q
      split at h
      · rename_i tg iter ifs
        obtain ⟨hb, h⟩ := onB_some h
        obtain ⟨it, hit, h⟩ := Option.bind_eq_some_iff.mp h
        obtain ⟨t, ht, h⟩ := Option.bind_eq_some_iff.mp h
        obtain ⟨hL, h⟩ := onB_some h
        obtain ⟨x, hx, h⟩ := Option.bind_eq_some_iff.mp h
        obtain ⟨hi, hs⟩ := trI_ok T g (tg := tg) hit
        have hL' : ∀ i ∈ t.slots, i ∈ (ownOf X.N scope.names).map (·.2) := fun i hi => by
          have := List.all_eq_true.mp hL i hi
          exact List.contains_iff_mem.mp this
        have key : ∀ (s : Shared) (H : Hp) (C : Addr) (cl : List (Str × Addr)) (fp : List Addr), Tr S F (X.blk s H scope (compEnvC scope cl C X.env) fp) W0 (trE G X.N k (relS scope X.env.scope)) := fun s H C cl fp => trE_ok k (g.blk s H scope (compEnvC scope cl C X.env) fp)
        split at h
        · cases h
          exact ord (s_comp (fc := (den F .yes).e) g hi (blkOk_by hb) hL' (fun s H C cl fp => trT_ok (key s H C cl fp) (g.blk s H scope (compEnvC scope cl C X.env) fp) (fun _ z => z) 8 ht)
            (fun s H C cl fp => ⟨fun pins s1 σ H1 Q I ⟨ι, ρ, m, rs, M, p⟩ => pts_nil.run pins s1 σ H1 Q I (PostG.ok M p)⟩) (fun s H C cl fp => (key s H C cl fp _ _ hx).1) hs)
        · obtain ⟨z, hz, h⟩ := Option.bind_eq_some_iff.mp h
          cases h
          exact ord (s_comp g hi (blkOk_by hb) hL' (fun s H C cl fp => trT_ok (key s H C cl fp) (g.blk s H scope (compEnvC scope cl C X.env) fp) (fun _ z => z) 8 ht)
            (fun s H C cl fp => pts_one (key s H C cl fp _ _ hz).2) (fun s H C cl fp => (key s H C cl fp _ _ hx).1) hs)
        · cases h
      · cases h
    · cases h
end
end Ev

set_option Elab.async false
set_option linter.all false
set_option maxRecDepth 100000
set_option maxHeartbeats 4000000
namespace Ev
open PySem PySem.Spec PyProof.Rows L2

/-! ## statements -/
def PostS (S : Sta) (W : WX) (ι : Nat → Addr) (m : Mem) (H : Hp) (D : Ends) (o : OutS) : Prop := match o with
  | .nx ρ' m' => ∀ ι' H' σ', Step S ι m H ι' m' H' → RepS S ι' m'.nx H' ρ' σ' → D.nx σ' H'
  | .brk ρ' m' => ∀ ι' H' σ', Step S ι m H ι' m' H' → RepS S ι' m'.nx H' ρ' σ' → D.bk σ' H'
  | .cnt ρ' m' => ∀ ι' H' σ', Step S ι m H ι' m' H' → RepS S ι' m'.nx H' ρ' σ' → D.ct σ' H'
  | .ret d m' => ∀ ι' H' v, Step S ι m H ι' m' H' → RepV S ι' m'.nx H' d v → D.rt v H'
  | .exc x ρ' m' => ∀ ι' H' σ' cls dd, Step S ι m H ι' m' H' → RepS S ι' m'.nx H' ρ' σ' → RepX S ι' m'.nx H' x cls dd → W cls dd σ' H'
  | .bad => False
def evS (S : Sta) (W : WX) (f : Rho → Mem → OutS) : TS := fun D σ H => ∃ ι ρ m, RepS S ι m.nx H ρ σ ∧ RepM S ι H m ∧ PostS S W ι m H D (f ρ m)
section
variable {S : Sta} {G : Glo} {F : Nat → List D → MV D} {n : Nat} {X : Cx} {W : WX} {pos : Pos} {stm : Stmt} {sts : List Stmt}
theorem psI {t t' : TS} (h : PS X stm t) (k : ∀ D σ H, t' D σ H → t D σ H) : PS X stm t' := ⟨fun pins s σ H D I w => h.run pins s σ H D I (k D σ H w)⟩
theorem pssI {t t' : TS} (h : PSs X sts t) (k : ∀ D σ H, t' D σ H → t D σ H) : PSs X sts t' := ⟨fun pins s σ H D I w => h.run pins s σ H D I (k D σ H w)⟩
section
variable {ι ι1 : Nat → Addr} {m m1 : Mem} {H H1 : Hp} {ρ : Rho} {σ : L2.St} {D : Ends} {o : OutS}
theorem PostS.step (T : Step S ι m H ι1 m1 H1) (p : PostS S W ι m H D o) : PostS S W ι1 m1 H1 D o := by
  cases o with
  | nx ρ' m' => exact fun ι' H' σ' z => p ι' H' σ' (T.trans z)
  | brk ρ' m' => exact fun ι' H' σ' z => p ι' H' σ' (T.trans z)
  | cnt ρ' m' => exact fun ι' H' σ' z => p ι' H' σ' (T.trans z)
  | ret d m' => exact fun ι' H' σ' z => p ι' H' σ' (T.trans z)
  | exc x ρ' m' => exact fun ι' H' σ' cls dd z => p ι' H' σ' cls dd (T.trans z)
  | bad => exact p
theorem PostS.st {α : Type} {a : Out α} {f : α → Mem → OutS} (rs : RepS S ι m.nx H ρ σ) (M : RepM S ι H m) (p : PostS S W ι m H D (a.st ρ f)) :
    PostG S ι m H (fun c d H' => W c d σ H') a fun x ι1 m1 H1 => RepM S ι1 H1 m1 ∧ Step S ι m H ι1 m1 H1 ∧ RepS S ι1 m1.nx H1 ρ σ ∧ PostS S W ι1 m1 H1 D (f x m1) := by
  cases a with
  | ok x m' => exact fun ι' H' z => ⟨z.mem, z, z.repS M rs, PostS.step z p⟩
  | exc x m' => exact fun ι' H' cls dd z r => p ι' H' σ cls dd z (z.repS M rs) r
  | bad => exact p
theorem PostS.here (rs : RepS S ι m.nx H ρ σ) (M : RepM S ι H m) (p : PostS S W ι m H D (.nx ρ m)) : D.nx σ H := p ι H σ (Step.refl M) rs
/-- a value, then the rest -/
theorem st_then {f : Rho → MV Ev.D} {g : Ev.D → Mem → OutS} {R : VK} (rs : RepS S ι m.nx H ρ σ) (M : RepM S ι H m) (p : PostS S W ι m H D ((f ρ m).st ρ g))
    (k : ∀ d v ι1 m1 H1, RepS S ι1 m1.nx H1 ρ σ → RepM S ι1 H1 m1 → Step S ι m H ι1 m1 H1 → RepV S ι1 m1.nx H1 d v → PostS S W ι1 m1 H1 D (g d m1) → R v H1) : evE S W f σ H R :=
  ⟨ι, ρ, m, rs, M, (p.st rs M).imp fun d ι1 m1 H1 _ ⟨M1, T1, rs1, q⟩ v rv => k d v ι1 m1 H1 rs1 M1 T1 rv q⟩
end
def seqS (f g : Rho → Mem → OutS) : Rho → Mem → OutS := fun ρ m => match f ρ m with
  | .nx ρ' m' => g ρ' (tdS m.nx ρ' m')
  | o => o
theorem q_nil : PSs X [] (evS S W fun ρ m => .nx ρ m) := pssI pss_nil fun D σ H ⟨ι, ρ, m, rs, M, p⟩ => p.here rs M
theorem q_cons {f g : Rho → Mem → OutS} (h1 : PS X stm (evS S W f)) (h2 : PSs X sts (evS S W g)) : PSs X (stm :: sts) (evS S W (seqS f g)) :=
  pssI (pss_cons h1 h2) fun D σ H ⟨ι, ρ, m, rs, M, p⟩ => ⟨ι, ρ, m, rs, M, by
    unfold seqS at p
    cases e : f ρ m with
    | nx ρ' m' => rw [e] at p; exact fun ι' H' σ' z r => ⟨ι', ρ', _, r.tidyS, (z.tidyS ρ').mem, PostS.step (z.tidyS ρ') p⟩
    | brk ρ' m' => rw [e] at p; exact p
    | cnt ρ' m' => rw [e] at p; exact p
    | ret d m' => rw [e] at p; exact p
    | exc x ρ' m' => rw [e] at p; exact p
    | bad => rw [e] at p; exact p⟩
def asgS (fe : Rho → MV D) (ft : D → Rho → MV Rho) : Rho → Mem → OutS := fun ρ m => (fe ρ m).st ρ fun d m1 => (noX (ft d ρ m1)).st ρ fun ρ' m' => .nx ρ' m'
theorem asg_go {fe : Rho → MV D} {ft : D → Rho → MV Rho} {L : List Nat} {D : Ends} {σ : L2.St} {H : Hp} (w : evS S W (asgS fe ft) D σ H) : tAsg (evE S W fe) (evG S L ft) D σ H := by
  obtain ⟨ι, ρ, m, rs, M, p⟩ := w
  refine st_then rs M p fun d v ι1 m1 H1 rs1 M1 T1 rv q => ⟨ι1, ρ, m1, d, rs1, M1, rv, ?_⟩
  refine (noX_any (q.st rs1 M1)).imp fun ρ' ι2 m2 H2 _ ⟨M2, T2, rs2, q2⟩ σ' r o => q2.here r M2
theorem q_asg {e tg : Expr} {fe : Rho → MV D} {ft : D → Rho → MV Rho} {L : List Nat} (he : PE X e (evE S W fe)) (hg : PG X tg (evG S L ft)) (hs : swapsWithSole [tg] e pos.line X.env = pure false) (hw : swappedStores [tg] e X.env = pure none) (hp : plainX tg = true) : PS X (.Assign [tg] e pos) (evS S W (asgS fe ft)) :=
  psI (ps_asg he hg hs hw (by rw [asg1 hp] <;> rfl)) fun D σ H w => asg_go w
theorem q_set {i : Nat} {x : Str} {e : Expr} {px : Pos} {fe : Rho → MV D} (g : GC S G F n X W) (hi : X.N[i]? = some x) (hx : Loc X.env.scope x) (hf : X.fn x = true ∨ X.env.scope.names.lookup x = some .local) (he : PE X e (evE S W fe)) (hs : swapsWith e (some (.Name x px)) pos.line X.env = pure false) : PS X (.Assign [.Name x px] e pos) (evS S W (asgS fe (tnmM i))) :=
  psI (ps_set g.nd hi hx he hs hf) fun D σ H ⟨ι, ρ, m, rs, M, p⟩ => st_then rs M p fun d v ι1 m1 H1 rs1 M1 T1 rv q => (q.st rs1 M1) ι1 H1 (Step.refl M1) |>.2.2.2 ι1 H1 _ (Step.refl M1) (rs1.set rv i)
theorem q_par {i j : Nat} {x y : Str} {a b : Expr} {px py pt : Pos} {kt k2 pt2} {fa : Rho → MV D} (g : GC S G F n X W) (hi : X.N[i]? = some x) (hj : X.N[j]? = some y) (hij : i ≠ j)
    (hx : X.env.scope.names.lookup x = some .local) (hy : X.env.scope.names.lookup y = some .local) (ha : PA X [a, b] (evA S W fa)) (hl : TupLen fa 2)
    (hw : swappedStores [.Tuple [.Name x px, .Name y py] kt pt] (.Tuple [a, b] k2 pt2) X.env = pure (some [x, y])) :
    PS X (.Assign [.Tuple [.Name x px, .Name y py] kt pt] (.Tuple [a, b] k2 pt2) pos) (evS S W fun ρ m => (fa ρ m).st ρ fun d m1 => (match d with | .tup [x, y] => .nx ((ρ.set i (some x)).set j (some y)) m1 | _ => .bad)) := by
  refine psI (ps_par g.calm g.nd hi hj hij hx hy ha hw) fun D σ H ⟨ι, ρ, m, rs, M, p⟩ => ⟨ι, ρ, m, rs, M, ?_⟩
  have p := p.st rs M
  cases e : fa ρ m with
  | ok d m' =>
    rw [e] at p
    obtain ⟨ds, rfl, hk⟩ := hl _ _ _ _ e
    match ds, hk with
    | [d1, d2], _ =>
      refine fun ι1 H1 T => ⟨_, rfl, fun vs r => ?_⟩
      obtain ⟨M1, T1, rs1, q⟩ := p ι1 H1 T
      cases r with
      | cons r1 r =>
        cases r with
        | cons r2 r =>
          cases r
          exact ⟨_, _, rfl, q ι1 H1 _ (Step.refl M1) ((rs1.set r1 i).set r2 j)⟩
  | exc x m' => rw [e] at p; exact p
  | bad => rw [e] at p; exact p
theorem ipo (op : BOp) (ho : op ≠ .pow) : PIp X op.py fun x y H Q => ∃ i j k, x = .int i ∧ y = .int j ∧ binI op i j = some k ∧ Q (.int k) H := by
  rintro pins s σ H x y v u Q I rx ry ⟨i, j, k, rfl, rfl, e, q⟩
  obtain ⟨t, rfl⟩ := rx
  obtain ⟨t', rfl⟩ := ry
  have fin : ∀ z, z = k → EP X pins σ Q (.int z s.toks) { s with toks := s.toks + 1 } := fun z hz => ⟨.int k, H, I.tok _, ⟨s.toks, hz ▸ rfl⟩, q⟩
  cases op with
  | add => exact iadd_int (fin _ (Option.some.inj e))
  | sub => exact isub_int (fin _ (Option.some.inj e))
  | mul => obtain ⟨h, e⟩ := guardO_some e; exact imul_int (fin _ e) (mul_ok h)
  | fdiv =>
    obtain ⟨h, e⟩ := guardO_some e
    simp only [Bool.and_eq_true, Bool.not_eq_true', decide_eq_false_iff_not] at h
    exact PySem.AutoIntOps.ifloordiv_1 (by simpa using h.1) (by rw [PyProof.noPylong_of_log2 (Nat.le_of_ble_eq_true h.2)]; decide) (fin _ e)
  | mod =>
    obtain ⟨h, e⟩ := guardO_some e
    simp only [Bool.not_eq_true', decide_eq_false_iff_not] at h
    exact PySem.AutoIntOps.imod_1 (by simpa using h) (fin _ e)
  | pow => exact absurd rfl ho
theorem q_aug {i : Nat} {x : Str} {e : Expr} {px : Pos} {fe : Rho → MV D} {op : BOp} (g : GC S G F n X W) (hi : X.N[i]? = some x) (hx : Loc X.env.scope x) (hf : X.fn x = true ∨ X.env.scope.names.lookup x = some .local) (he : PE X e (evE S W fe)) (ho : op ≠ .pow) : PS X (.AugAssign (.Name x px) op.py e pos) (evS S W fun ρ m => (match getR ρ i with
    | some x => (fe ρ m).st ρ fun y m1 => (match x, y with | .int a, .int b => (opt (binI op a b) m1).st ρ fun r m2 => .nx (ρ.set i (some (.int r))) m2 | _, _ => .bad)
    | none => .bad)) := by
  refine psI (ps_aug g.nd hi hx he (ipo op ho) hf) fun D σ H ⟨ι, ρ, m, rs, M, p⟩ => ?_
  dsimp only at p
  cases e1 : getR ρ i with
  | none => rw [e1] at p; exact False.elim p
  | some d =>
    rw [e1] at p
    obtain ⟨v, hv, rv⟩ := rs.at_ i d e1
    refine ⟨v, hv, st_then rs M p fun d2 v2 ι1 m1 H1 rs1 M1 T1 r2 q => ?_⟩
    have rv := T1.repV M rv
    cases rv with
    | int a => cases r2 with
      | int b =>
        have q : PostS S W ι1 m1 H1 D ((opt (binI op a b) m1).st ρ fun r m2 => .nx (ρ.set i (some (.int r))) m2) := q
        cases e2 : binI op a b with
        | none => rw [e2] at q; exact False.elim q
        | some k =>
          rw [e2] at q
          exact ⟨a, b, k, rfl, rfl, e2, q ι1 H1 _ (Step.refl M1) (rs1.set (.int k) i)⟩
      | _ => exact False.elim q
    | _ => cases r2 <;> exact False.elim q
theorem q_expr {e : Expr} {fe : Rho → MV D} (he : PE X e (evE S W fe)) (hs : swapsWith e none pos.line X.env = pure false) : PS X (.Expr e pos) (evS S W fun ρ m => (fe ρ m).st ρ fun _ m1 => .nx ρ m1) :=
  psI (ps_expr he hs) fun D σ H ⟨ι, ρ, m, rs, M, p⟩ => st_then rs M p fun d v ι1 m1 H1 rs1 M1 T1 rv q => q.here rs1 M1
theorem q_ret {e : Expr} {fe : Rho → MV D} (he : PE X e (evE S W fe)) : PS X (.Return (some e) pos) (evS S W fun ρ m => (fe ρ m).st ρ fun d m1 => .ret d m1) :=
  psI (ps_ret he) fun D σ H ⟨ι, ρ, m, rs, M, p⟩ => st_then rs M p fun d v ι1 m1 H1 rs1 M1 T1 rv q => q ι1 H1 v (Step.refl M1) rv
theorem q_ret0 : PS X (.Return none pos) (evS S W fun ρ m => (okk D.non m).st ρ fun d m1 => .ret d m1) :=
  psI ps_retN fun D σ H ⟨ι, ρ, m, rs, M, p⟩ => p ι H _ (Step.refl M) .non
theorem q_if {c : Expr} {a b : List Stmt} {fc : Rho → MV Bool} {f g : Rho → Mem → OutS} (hc : PT X c (evB S W fc)) (ha : PSs X a (evS S W f)) (hb : PSs X b (evS S W g)) : PS X (.If c a b pos) (evS S W fun ρ m => (fc ρ m).st ρ fun t m1 => (match t with | true => f ρ m1 | false => g ρ m1)) :=
  psI (ps_if hc ha hb) fun D σ H ⟨ι, ρ, m, rs, M, p⟩ => ⟨ι, ρ, m, rs, M, (p.st rs M).imp fun t ι1 m1 H1 _ ⟨M1, T1, rs1, q⟩ => by
    cases t with
    | true => exact ⟨ι1, ρ, m1, rs1, M1, q⟩
    | false => exact ⟨ι1, ρ, m1, rs1, M1, q⟩⟩
theorem q_while {c : Expr} {body : List Stmt} {fc : Rho → MV Bool} {f : Rho → Mem → OutS} (hp : PassesOwn (model X.prog X.w) X.A X.env X.xe) (hc : PT X c (evB S W fc)) (hb : PSs X body (evS S W f)) : PS X (.While c body [] pos) (evS S W fun ρ m => whileL fc f wMost ρ m) := by
  refine psI (ps_while hp hc hb) fun D σ H w => ⟨fun k => evS S W (fun ρ m => whileL fc f k ρ m) D, ⟨wMost, w⟩, fun k σ1 H1 ⟨ι, ρ, m, rs, M, p⟩ => ?_⟩
  cases k with
  | zero => exact False.elim p
  | succ k =>
    refine ⟨ι, ρ, m, rs, M, ?_⟩
    have p : PostS S W ι m H1 D ((fc ρ m).st ρ fun t m1 => match t with
      | false => .nx ρ m1
      | true => (match f ρ m1 with
        | .nx ρ' m' => whileL fc f k (tdR m.nx m' ρ') (tdM m.nx m')
        | .cnt ρ' m' => whileL fc f k (tdR m.nx m' ρ') (tdM m.nx m')
        | .brk ρ' m' => .nx ρ' m'
        | .ret d m' => .ret d m'
        | .exc x ρ' m' => .exc x ρ' m'
        | .bad => .bad)) := p
    cases e : fc ρ m with
    | bad => rw [e] at p; exact False.elim p
    | exc x m1 => rw [e] at p; exact fun ι1 H2 cls dd T r => p ι1 H2 σ1 cls dd T (T.repS M rs) r
    | ok t m1 =>
      rw [e] at p
      cases t with
      | false => exact fun ι1 H2 T => p ι1 H2 σ1 T (T.repS M rs)
      | true =>
        refine fun ι1 H2 T => ⟨fun σ' H' => evS S W (fun ρ m => whileL fc f k ρ m) D σ' H', fun σ' H' z => ⟨k, Nat.lt_succ_self k, z⟩, ι1, ρ, m1, T.repS M rs, T.mem, ?_⟩
        have p : PostS S W ι m H1 D (match f ρ m1 with
          | .nx ρ' m' => whileL fc f k (tdR m.nx m' ρ') (tdM m.nx m')
          | .cnt ρ' m' => whileL fc f k (tdR m.nx m' ρ') (tdM m.nx m')
          | .brk ρ' m' => .nx ρ' m'
          | .ret d m' => .ret d m'
          | .exc x ρ' m' => .exc x ρ' m'
          | .bad => .bad) := p
        have again : ∀ {ρ' : Rho} {m' : Mem}, PostS S W ι m H1 D (whileL fc f k (tdR m.nx m' ρ') (tdM m.nx m')) → ∀ ι' H' σ', Step S ι1 m1 H2 ι' m' H' → RepS S ι' m'.nx H' ρ' σ' → evS S W (fun ρ m => whileL fc f k ρ m) D σ' H' :=
          fun q ι' H' σ' T2 r => ⟨ι', _, _, r.tidy, (T.trans T2).tidy.mem, PostS.step (T.trans T2).tidy q⟩
        cases e2 : f ρ m1 with
        | nx ρ' m' => rw [e2] at p; exact again p
        | cnt ρ' m' => rw [e2] at p; exact again p
        | brk ρ' m' => rw [e2] at p; exact fun ι' H' σ' T2 r => p ι' H' σ' (T.trans T2) r
        | ret d m' => rw [e2] at p; exact fun ι' H' v T2 r => p ι' H' v (T.trans T2) r
        | exc x ρ' m' => rw [e2] at p; exact fun ι' H' σ' cls dd T2 r rx => p ι' H' σ' cls dd (T.trans T2) r rx
        | bad => rw [e2] at p; exact p
def OutS.onMem (f : Mem → Mem) : OutS → OutS
  | .nx ρ m => .nx ρ (f m)
  | .brk ρ m => .brk ρ (f m)
  | .cnt ρ m => .cnt ρ (f m)
  | .ret d m => .ret d (f m)
  | .exc x ρ m => .exc x ρ (f m)
  | .bad => .bad
theorem onSrcS_eq {ι : Nat → Addr} {m : Mem} {H : Hp} {s : Src} {J : It} {f : List D → Mem → OutS} (h : SrcOk S ι m H s J) : onSrcS s f m = (f s.ds (s.mem m)).onMem (s.back m) := by
  cases s with
  | items ds =>
    show f ds m = (f ds m).onMem fun m' => m'
    cases f ds m <;> rfl
  | held n ds =>
    obtain ⟨_, h⟩ := h
    unfold Mem.lst at h
    show holdS n (f ds) m = _
    unfold holdS Src.mem Src.back
    dsimp only
    cases e : m.get n with
    | none => rw [e] at h; cases h
    | some o =>
      cases o with
      | lst es =>
        dsimp only [Src.ds]
        cases f ds (m.put n (.rol es)) <;> rfl
      | rol es => show f ds m = (f ds m).onMem fun m' => m'; cases f ds m <;> rfl
      | kol es => show f ds m = (f ds m).onMem fun m' => m'; cases f ds m <;> rfl
      | scr es => show f ds m = (f ds m).onMem fun m' => m'; cases f ds m <;> rfl
/-- what is wanted behind a walk, said of its inner store -/
def PostB (S : Sta) (W : WX) (ι0 : Nat → Addr) (m0 : Mem) (H0 : Hp) (s : Src) (ι : Nat → Addr) (m : Mem) (H : Hp) (D : Ends) (o : OutS) : Prop :=
  PostS S W ι m H { nx := fun σ' H' => ∀ ι' m', Step S ι0 m0 H0 ι' (s.back m0 m') H' → D.nx σ' H', rt := D.rt, bk := D.bk, ct := D.ct } o
theorem q_for {tg iter : Expr} {body : List Stmt} {fs : Rho → MV Src} {ft : D → Rho → MV Rho} {f : Rho → Mem → OutS} {L : List Nat} (g : GC S G F n X W) (hp : PassesOwn (model X.prog X.w) X.A X.env X.xe) (hi : PI X tg iter (evI S W fs)) (hg : PG X tg (evG S L ft)) (hb : PSs X body (evS S W f))
    (hs : ∀ x, foldedSetIterable iter X.env x = pure x) : PS X (.For tg iter body [] pos) (evS S W fun ρ m => (fs ρ m).st ρ fun s m1 => onSrcS s (fun ds => forL (fun d ρ m => noX (ft d ρ m)) f ds ρ) m1) := by
  refine psI (ps_for hp g.calm hi hg hb hs) fun D σ H ⟨ι, ρ, m, rs, M, p⟩ => ⟨ι, ρ, m, rs, M, (p.st rs M).imp fun src ι1 m1 H1 _ ⟨M1, T1, rs1, q⟩ J hJ => ?_⟩
  rw [onSrcS_eq hJ] at q
  have Tm := step_mem (s := src) M1
  -- what is left to do from a state within the loop
  let P : Nat → L2.St → Hp → Prop := fun i σ' Hc => i ≤ src.ds.length ∧ ∃ ι' ρ' m', Step S ι1 (src.mem m1) H1 ι' m' Hc ∧ RepS S ι' m'.nx Hc ρ' σ' ∧
    PostS S W ι1 m1 H1 D ((forL (fun d ρ m => noX (ft d ρ m)) f (src.ds.drop i) ρ' m').onMem (src.back m1))
  refine ⟨fun i k σ' Hc => k = src.ds.length - i ∧ P i σ' Hc, ⟨src.ds.length, by simp, Nat.zero_le _, ι1, ρ, src.mem m1, Step.refl Tm.mem, Tm.repS M1 rs1, q⟩, ?_⟩
  rintro i k σ2 H2 ⟨rfl, hi, ι2, ρ2, m2, T, rs2, q2⟩
  have wk := walk M1 hJ T i
  by_cases hlt : i < src.ds.length
  · refine .inr ⟨(wk.1 hlt).1, P (i + 1), fun σ' H' p' => ⟨src.ds.length - (i + 1), by omega, rfl, p'⟩, fun x Hx y => ?_⟩
    obtain ⟨rfl, d, hd, rd⟩ := (wk.1 hlt).2 x Hx y
    have hdrop : src.ds.drop i = d :: src.ds.drop (i + 1) := by
      rw [List.drop_eq_getElem_cons hlt]
      have : src.ds[i] = d := by
        have h2 := List.getElem?_eq_getElem hlt
        rw [h2] at hd
        exact Option.some.inj hd
      rw [this]
    rw [hdrop] at q2
    refine ⟨ι2, ρ2, m2, d, rs2, T.mem, rd, ?_⟩
    unfold forL at q2
    cases e : ft d ρ2 m2 with
    | bad => rw [e] at q2; exact False.elim q2
    | exc x m' => rw [e] at q2; exact False.elim q2
    | ok ρ3 m3 =>
      rw [e] at q2
      refine fun ι3 H3 T3 σ3 rs3 o3 => ⟨ι3, ρ3, m3, rs3, T3.mem, ?_⟩
      have q2 : PostS S W ι1 m1 H1 D (OutS.onMem (src.back m1) (match f ρ3 m3 with
        | .nx ρ' m' => forL (fun d ρ m => noX (ft d ρ m)) f (src.ds.drop (i + 1)) (tdR m2.nx m' ρ') (tdM m2.nx m')
        | .cnt ρ' m' => forL (fun d ρ m => noX (ft d ρ m)) f (src.ds.drop (i + 1)) (tdR m2.nx m' ρ') (tdM m2.nx m')
        | .brk ρ' m' => .nx ρ' m'
        | .ret d m' => .ret d m'
        | .exc x ρ' m' => .exc x ρ' m'
        | .bad => .bad)) := q2
      have TT := T.trans T3
      cases e2 : f ρ3 m3 with
      | bad => rw [e2] at q2; exact False.elim q2
      | nx ρ4 m4 => rw [e2] at q2; exact fun ι4 H4 σ4 T4 rs4 => ⟨by omega, ι4, _, _, T.trans (T3.trans T4).tidy, rs4.tidy, q2⟩
      | cnt ρ4 m4 => rw [e2] at q2; exact fun ι4 H4 σ4 T4 rs4 => ⟨by omega, ι4, _, _, T.trans (T3.trans T4).tidy, rs4.tidy, q2⟩
      | brk ρ4 m4 => rw [e2] at q2; exact fun ι4 H4 σ4 T4 rs4 => q2 ι4 H4 σ4 (step_back (s := src) M1 (TT.trans T4)) (by rw [back_nx]; exact rs4)
      | ret v4 m4 => rw [e2] at q2; exact fun ι4 H4 v T4 rv => q2 ι4 H4 v (step_back (s := src) M1 (TT.trans T4)) (by rw [back_nx]; exact rv)
      | exc x ρ4 m4 => rw [e2] at q2; exact fun ι4 H4 σ4 cls dd T4 rs4 rx => q2 ι4 H4 σ4 cls dd (step_back (s := src) M1 (TT.trans T4)) (by rw [back_nx]; exact rs4) (by rw [back_nx]; exact rx)
  · have e : i = src.ds.length := by omega
    refine .inl ⟨wk.2 (by omega), ?_⟩
    rw [e, List.drop_length] at q2
    exact q2 ι2 H2 σ2 (step_back (s := src) M1 T) (by rw [back_nx]; exact rs2)
theorem q_break : PS X (.Break pos) (evS S W fun ρ m => .brk ρ m) := psI ps_break fun D σ H ⟨ι, ρ, m, rs, M, p⟩ => p ι H σ (Step.refl M) rs
theorem q_cont : PS X (.Continue pos) (evS S W fun ρ m => .cnt ρ m) := psI ps_continue fun D σ H ⟨ι, ρ, m, rs, M, p⟩ => p ι H σ (Step.refl M) rs
theorem q_pass : PS X (.Pass pos) (evS S W fun ρ m => .nx ρ m) := psI ps_pass fun D σ H ⟨ι, ρ, m, rs, M, p⟩ => p.here rs M
theorem q_doc {x j p} : PS X (.Expr (.Constant (.str x) j p) pos) (evS S W fun ρ m => .nx ρ m) := psI ps_doc fun D σ H ⟨ι, ρ, m, rs, M, p⟩ => p.here rs M
theorem q_dead {f : Rho → Mem → OutS} (h : ∀ ρ m, f ρ m = .bad) : PS X stm (evS S W f) := psI ps_never fun D σ H ⟨ι, ρ, m, rs, M, p⟩ => by rw [h] at p; exact p
/-- o.append(e) -/
theorem q_append {o e : Expr} {apos cpos : Pos} {fo fe : Rho → MV D} (g : GC S G F n X W) (ho : PE X o (evE S W fo)) (he : PE X e (evE S W fe)) (hp : plainX e = true) (hb : attributeBase o "append" X.env (eval o X.env) = eval o X.env) (hl : (apos.endLine == cpos.line) = true) :
    PS X (.Expr (.Call (.Attribute o "append" apos) [e] [] cpos) pos) (evS S W fun ρ m => (fo ρ m).st ρ fun x m1 => (onLst m1 x fun _ => .ok () m1).st ρ fun _ m1 => (fe ρ m1).st ρ fun d m2 => (appF x d m2).st ρ fun _ m3 => .nx ρ m3) := by
  have h1 := star1 hp [] X.env
  refine psI (ps_expr (pe_bm PySem.F.plainAttrs_list PySem.F.slot_list_append PySem.F.type_list_append mt_append ho (pa_cons he pa_nil h1) hb (by rw [h1] <;> rfl) hl h1) rfl) fun D σ H ⟨ι, ρ, m, rs, M, p⟩ => ?_
  refine st_then rs M p fun d v ι1 m1 H1 rs1 M1 T1 rv q => ?_
  cases rv with
  | @ref k hk =>
    have q : PostS S W ι1 m1 H1 D ((match m1.lst k with | some xs => Out.ok () m1 | none => .bad).st ρ fun _ m1 => (fe ρ m1).st ρ fun d m2 => (appF (.ref k) d m2).st ρ fun _ m3 => .nx ρ m3) := q
    cases e1 : m1.lst k with
    | none => rw [e1] at q; exact False.elim q
    | some xs =>
      rw [e1] at q
      obtain ⟨vs, h, _⟩ := M1.lstL e1
      refine ⟨.inl ⟨rfl, vs, by rw [g.hK]; exact h⟩, ?_⟩
      refine st_then rs1 M1 q fun d2 v2 ι2 m2 H2 rs2 M2 T2 r2 q2 => ?_
      have q2 : PostS S W ι2 m2 H2 D ((match m2.get k with
        | some (.lst ds) => (match sizeB (ds.length + 1) with | true => Out.ok () (m2.put k (.lst (ds ++ [d2]))) | false => .bad)
        | _ => .bad).st ρ fun _ m3 => .nx ρ m3) := q2
      cases e2 : m2.get k with
      | none => rw [e2] at q2; exact False.elim q2
      | some u =>
        rw [e2] at q2
        cases u with
        | lst ds =>
          have q2 : PostS S W ι2 m2 H2 D ((match sizeB (ds.length + 1) with | true => Out.ok () (m2.put k (.lst (ds ++ [d2]))) | false => .bad).st ρ fun _ m3 => .nx ρ m3) := q2
          cases e3 : sizeB (ds.length + 1) with
          | false => rw [e3] at q2; exact False.elim q2
          | true =>
            rw [e3] at q2
            obtain ⟨vs2, h2, r⟩ := M2.ob k _ e2
            have hz := Nat.le_of_ble_eq_true e3
            have T3 := Step.put_lst M2 e2 (r.app (.cons r2 .nil))
            refine ⟨_, vs2, v2, by rw [T2.ext k hk], rfl, h2, ?_, ?_⟩
            · rw [← r.len, sizeLine_eq]; omega
            · exact q2 ι2 _ σ T3 (T3.repS M2 rs2)
        | rol ds => exact False.elim q2
        | kol ds => exact False.elim q2
        | scr ns => exact False.elim q2
  | _ => exact False.elim q
end
end Ev

set_option Elab.async false
set_option linter.all false
set_option maxRecDepth 100000
set_option maxHeartbeats 4000000
namespace Ev
open PySem PySem.Spec PyProof.Rows L2

/-! ## the language says what the text does: statements -/
def isComp : Expr → Bool
  | .ListComp .. | .SetComp .. | .DictComp .. => true
  | _ => false
def isNm : Expr → Bool
  | .Name .. => true
  | _ => false
def isTup : Expr → Bool
  | .Tuple .. => true
  | _ => false
def isLi : Expr → Bool
  | .List .. => true
  | _ => false
def isCl : Expr → Bool
  | .Call .. => true
  | _ => false
theorem sw_not {e : Expr} {t : Option Expr} {l : Nat} {env : PySem.Env} (h : isComp e = false) : swapsWith e t l env = pure false := by cases e <;> first | rfl | cases h
theorem sw_tgt {e tg : Expr} {l : Nat} {env : PySem.Env} (h : isNm tg = false) : swapsWith e (some tg) l env = pure false := by
  by_cases hc : isComp e = true
  · cases e <;> first | (cases tg <;> first | rfl | cases h) | cases hc
  · exact sw_not (by simpa using hc)
theorem st_none1 {tg e : Expr} {env : PySem.Env} (h : isTup tg = false) (h2 : isLi tg = false) : swappedStores [tg] e env = pure none := by
  cases tg with
  | Tuple => cases h
  | List => cases h2
  | _ => rfl
theorem st_none2 {ts : List Expr} {a : Nat} {p : Pos} {e : Expr} {env : PySem.Env} (h : isTup e = false) : swappedStores [.Tuple ts a p] e env = pure none := by cases e <;> first | rfl | cases h
theorem filt_lt {β : Type} {f : Expr → Option β} {q : Expr → Bool} (hf : ∀ e, q e = true → f e = none) : ∀ {ts : List Expr}, ts.any q = true → (ts.filterMap f).length < ts.length
  | [], h => by cases h
  | e :: es, h => by
    rw [List.any_cons, Bool.or_eq_true] at h
    rw [List.filterMap_cons]
    by_cases hq : q e = true
    · rw [hf e hq]
      exact Nat.lt_succ_of_le (List.length_filterMap_le _ _)
    · have ih := filt_lt hf (h.resolve_left hq)
      cases f e with
      | none => exact Nat.lt_succ_of_lt ih
      | some b => exact Nat.succ_lt_succ ih
theorem st_none3 {ts vs : List Expr} {a c : Nat} {p q : Pos} {env : PySem.Env} (h : ts.any (fun t => !isNm t) = true) : swappedStores [.Tuple ts a p] (.Tuple vs c q) env = pure none := by
  unfold swappedStores
  dsimp only
  split
  · rfl
  split
  · rfl
  split
  · rfl
  · rename_i h3
    refine absurd ?_ h3
    rw [Bool.or_eq_true]
    left
    have := filt_lt (q := fun t => !isNm t) (f := fun (x : Expr) => match x with
      | .Name id pos => if (env.kindOf id == some .local && pos.line == ((ts.head?.map (·.pos.line)).getD 0)) = true then some id else none
      | _ => none) (fun e he => by cases e <;> first | rfl | cases he) h
    exact bne_iff_ne.mpr (Nat.ne_of_lt this)
theorem st_par {x y : Str} {u v : Expr} {px py p q : Pos} {a c : Nat} {env : PySem.Env} (hx : env.scope.names.lookup x = some .local) (hy : env.scope.names.lookup y = some .local) (hl : (py.line == px.line) = true) (hxy : x ≠ y)
    (hk : env.scope.kind = .function) (hs : plainX u = true) (hs2 : plainX v = true) (h1 : [u, v].all (foldedForSure 8) = false) (h2 : [u, v].all (constantsAlone 8) = false) :
    swappedStores [.Tuple [.Name x px, .Name y py] a p] (.Tuple [u, v] c q) env = pure (some [x, y]) := by
  have kx : env.kindOf x = some .local := hx
  have ky : env.kindOf y = some .local := hy
  have hb : env.blockKind = .function := by unfold Env.blockKind; rw [hk] <;> rfl
  have hst : ([u, v].any fun e => match e with | .Starred .. => true | _ => false) = false := by
    have key : ∀ e : Expr, (match e with | .Starred .. => true | _ => false) = !plainX e := fun e => by cases e <;> rfl
    simp only [List.any_cons, List.any_nil, key, hs, hs2] <;> rfl
  unfold swappedStores
  simp only [hb, h1, h2, hst, kx, ky, hl, List.filterMap_cons, List.filterMap_nil, List.head?_cons, Option.map_some, Option.getD_some, Expr.pos, beq_self_eq_true, Bool.and_self, List.length_cons, List.length_nil, if_true, if_false, Bool.false_eq_true]
  have hxy' : (x == y) = false := by simpa using hxy
  have : ([x, y] : List Str).eraseDups = [x, y] := by
    simp only [List.eraseDups_cons, List.filter_cons, List.filter_nil, List.eraseDups_nil]
    have hyx : (y == x) = false := by simpa using fun e => hxy e.symm
    rw [hyx]
    rfl
  simp [this]
  intro h
  rcases h with h | h
  · split at h
    · cases hs
    · cases h
  · split at h
    · cases hs2
    · cases h
theorem attr_base {o : Expr} {a : Str} {env : PySem.Env} (w : Sem Value) (h : isCl o = false) : attributeBase o a env w = w := by
  unfold attributeBase
  cases o with
  | Call => cases h
  | _ => rfl
def locB (sc : Scope) (x : Str) : Bool := match sc.names.lookup x with
  | some .local => true
  | _ => false
theorem locB_ok {sc : Scope} {x : Str} (h : locB sc x = true) : sc.names.lookup x = some .local := by
  unfold locB at h
  split at h
  · assumption
  · cases h
def cellB (sc : Scope) (x : Str) : Bool := match sc.names.lookup x with
  | some .cell => true
  | _ => false
theorem cellB_ok {sc : Scope} {x : Str} (h : cellB sc x = true) : sc.names.lookup x = some .cell := by
  unfold cellB at h
  split at h
  · assumption
  · cases h
def dead : S := .raise 0 .no
def trGen (G : Glo) (N : List Str) (k : Nat) (sc : Scope) (tg e : Expr) : Option S := (trT (trE G N k sc) (fun _ => true) N sc 8 tg).bind fun t => (trE G N k sc e).bind fun a => some (.asg t a)
def trPar (G : Glo) (N : List Str) (k : Nat) (sc : Scope) : List Expr → List Expr → Option S
  | [.Name x px, .Name y py], [a, b] => onB (locB sc x && locB sc y && (py.line == px.line) && !decide (x = y) && !([a, b].all (foldedForSure 8)) && !([a, b].all (constantsAlone 8)))
      ((ixOf x N 0).bind fun i => (ixOf y N 0).bind fun j => onB (!Nat.beq i j) ((trL (trE G N k sc) [a, b]).bind fun es => some (.par i j es)))
  | _, _ => none
def trSet (G : Glo) (N : List Str) (k : Nat) (sc : Scope) (x : Str) (px : Pos) (e : Expr) : Option S := onB (locB sc x || cellB sc x) ((ixOf x N 0).bind fun i => (match e with
  | .ListComp _ _ scope p => onB (locB sc x && (px.line == p.line) && !(scope.names.any fun (n, k) => n == x && (k == .local || k == .cell))) ((trE G N k sc e).bind fun a => some (.asg (.tnm i) a))
  | _ => onB (!isComp e) ((trE G N k sc e).bind fun a => some (.asg (.tnm i) a))))
def trAsg (G : Glo) (N : List Str) (k : Nat) (sc : Scope) (tg e : Expr) : Option S := match tg with
  | .Name x px => trSet G N k sc x px e
  | .Tuple ts _ _ => (match e with
    | .Tuple vs _ _ => (match ts.any (fun t => !isNm t) with
      | true => trGen G N k sc tg e
      | false => trPar G N k sc ts vs)
    | _ => trGen G N k sc tg e)
  | .Subscript _ _ _ => trGen G N k sc tg e
  | _ => none
def trSs (tr : Stmt → Option S) : List Stmt → S
  | [] => .skip
  | s :: r => .seq ((tr s).getD dead) (trSs tr r)
def notPow : BOp → Bool
  | .pow => false
  | _ => true
def trExpr (G : Glo) (N : List Str) (k : Nat) (sc : Scope) (e : Expr) : Option S := match e with
  | .Constant (.str _) _ _ => some .skip
  | .Call (.Attribute o at_ apos) [a] [] cpos => onB (decide (at_ = ("append" : Str)) && (apos.endLine == cpos.line) && plainX a && !isCl o) ((trE G N k sc o).bind fun x => (trE G N k sc a).bind fun y => some (.append x y))
  | e => onB (!isComp e) ((trE G N k sc e).bind fun x => some (.expr x))
def trS (G : Glo) (N : List Str) (k : Nat) : Nat → Scope → Stmt → Option S
  | 0, _, _ => none
  | n + 1, sc, st => match st with
    | .Expr e _ => trExpr G N k sc e
    | .Return none _ => some (.ret (.const .non))
    | .Return (some e) _ => (trE G N k sc e).bind fun x => some (.ret x)
    | .If c a b _ => (trE G N k sc c).bind fun x => some (.iff x (trSs (trS G N k n sc) a) (trSs (trS G N k n sc) b))
    | .While c b [] _ => (trE G N k sc c).bind fun x => some (.whil x (trSs (trS G N k n sc) b))
    | .For t it b [] _ => (trI (trE G N k sc) G sc it).bind fun x => (trT (trE G N k sc) (fun _ => true) N sc 8 t).bind fun y => some (.forr y x (trSs (trS G N k n sc) b))
    | .Assign [tg] e _ => trAsg G N k sc tg e
    | .AugAssign (.Name x _) op e _ => onB (locB sc x || cellB sc x) ((ixOf x N 0).bind fun i => (opOf op).bind fun o => onB (notPow o) ((trE G N k sc e).bind fun y => some (.aug i o y)))
    | .Break _ => some .brk
    | .Continue _ => some .cnt
    | .Pass _ => some .skip
    | _ => none
structure BC (S : Sta) (G : Glo) (F : Nat → List D → MV D) (n : Nat) (X : Cx) (W : WX) : Prop where
  g : GC S G F n X W
  pass : PassesOwn (model X.prog X.w) X.A X.env X.xe
  fn : ∀ x, X.fn x = true
  kind : X.env.scope.kind = .function
section
variable {S : Sta} {G : Glo} {F : Nat → List D → MV D} {n : Nat} {X : Cx} {W : WX} {pos : Pos}
theorem loc_of {sc : Scope} {x : Str} (h : (locB sc x || cellB sc x) = true) : Loc sc x := by
  rw [Bool.or_eq_true] at h
  rcases h with h | h
  · exact .inl (locB_ok h)
  · exact .inr (cellB_ok h)
theorem trGen_ok (b : BC S G F n X W) {k : Nat} {tg e : Expr} {s : Ev.S} (h : trGen G X.N k X.env.scope tg e = some s) (hn : isNm tg = false) (hw : swappedStores [tg] e X.env = pure none) (hp : plainX tg = true) : PS X (.Assign [tg] e pos) (evS S W (denS F s)) := by
  obtain ⟨t, ht, h⟩ := Option.bind_eq_some_iff.mp h
  obtain ⟨a, ha, h⟩ := Option.bind_eq_some_iff.mp h
  cases h
  have T := trE_ok k b.g
  exact q_asg (T _ _ ha).1 (trT_ok T b.g (fun x _ => b.fn x) 8 ht) (sw_tgt hn) hw hp
theorem trPar_ok (b : BC S G F n X W) {k : Nat} {ts vs : List Expr} {x1 x2 : Nat} {p1 p2 : Pos} {s : Ev.S} (h : trPar G X.N k X.env.scope ts vs = some s) : PS X (.Assign [.Tuple ts x1 p1] (.Tuple vs x2 p2) pos) (evS S W (denS F s)) := by
  unfold trPar at h
  split at h
  · rename_i x px y py e1 e2
    obtain ⟨hc, h⟩ := onB_some h
    simp only [Bool.and_eq_true, Bool.not_eq_true', decide_eq_false_iff_not] at hc
    obtain ⟨⟨⟨⟨⟨hx, hy⟩, hl⟩, hxy⟩, hf⟩, hk⟩ := hc
    obtain ⟨i, hi, h⟩ := Option.bind_eq_some_iff.mp h
    obtain ⟨j, hj, h⟩ := Option.bind_eq_some_iff.mp h
    obtain ⟨hij, h⟩ := onB_some h
    obtain ⟨es, hes, h⟩ := Option.bind_eq_some_iff.mp h
    cases h
    obtain ⟨pa, tl, hp⟩ := trL_ok (trE_ok k b.g) hes
    simp only [List.all_cons, List.all_nil, Bool.and_eq_true] at hp
    exact q_par b.g (ixOf0 hi) (ixOf0 hj) (fun e => by rw [e, Nat.beq_refl] at hij; cases hij) (locB_ok hx) (locB_ok hy) pa tl (st_par (locB_ok hx) (locB_ok hy) hl hxy b.kind hp.1 hp.2.1 hf hk)
  · cases h
theorem comp_set (b : BC S G F n X W) {k i : Nat} {x : Str} {px p : Pos} {elt : Expr} {gens : List Comprehension} {scope : Scope} {a : E} (hx : X.env.scope.names.lookup x = some .local) (hi : X.N[i]? = some x)
    (hl : (px.line == p.line) = true) (ho : (scope.names.any fun (n, k) => n == x && (k == .local || k == .cell)) = false)
    (h : trE G X.N k X.env.scope (.ListComp elt gens scope p) = some a) : PS X (.Assign [.Name x px] (.ListComp elt gens scope p) pos) (evS S W (denS F (.asg (.tnm i) a))) := by
  cases k with
  | zero => cases h
  | succ k =>
    have g := b.g
    have T := trE_ok k g
    unfold trE at h
    dsimp only at h
    split at h
    · rename_i tg iter ifs
      obtain ⟨hb, h⟩ := onB_some h
      obtain ⟨it, hit, h⟩ := Option.bind_eq_some_iff.mp h
      obtain ⟨t, ht, h⟩ := Option.bind_eq_some_iff.mp h
      obtain ⟨hL, h⟩ := onB_some h
      obtain ⟨y, hy, h⟩ := Option.bind_eq_some_iff.mp h
      obtain ⟨hi', hs⟩ := trI_ok T g (tg := tg) hit
      have hL' : ∀ i ∈ t.slots, i ∈ (ownOf X.N scope.names).map (·.2) := fun i hi => List.contains_iff_mem.mp (List.all_eq_true.mp hL i hi)
      have key : ∀ (s : Shared) (H : Hp) (C : Addr) (cl : List (Str × Addr)) (fp : List Addr), Tr S F (X.blk s H scope (compEnvC scope cl C X.env) fp) W0 (trE G X.N k (relS scope X.env.scope)) := fun s H C cl fp => trE_ok k (g.blk s H scope (compEnvC scope cl C X.env) fp)
      have sw := sw_true (elt := elt) (gs := [⟨tg, iter, ifs, 0⟩]) (scope := scope) (pos := p) (py := px) (l := pos.line) b.kind hx hl ho
      have fin : ∀ {fc : Rho → MV D} {ft fs fe}, (∀ D σ H, evS S W (asgS (compM ((ownOf X.N scope.names).map (·.2)) ft fs fc fe) (tnmM i)) D σ H → tAsg (tLc (evI S W fs) (evG S t.slots ft) (evB S W0 (testM fc)) (evE S W0 fe) ((ownOf X.N scope.names).map (·.2))) (gName i) D σ H) := fun {fc ft fs fe} D σ H ⟨ι, ρ, m, rs, M, q⟩ =>
        lc_go hL' (st_then rs M q fun d v ι1 m1 H1 rs1 M1 T1 rv q => (q.st rs1 M1) ι1 H1 (Step.refl M1) |>.2.2.2 ι1 H1 _ (Step.refl M1) (rs1.set rv i))
      split at h
      · cases h
        exact psI (ps_setLc g.calm g.nd hi hx sw hi' (blkOk_by hb) (fun s H C cl fp => trT_ok (key s H C cl fp) (g.blk s H scope (compEnvC scope cl C X.env) fp) (fun _ z => z) 8 ht)
            (fun s H C cl fp => ⟨fun pins s1 σ H1 Q I ⟨ι, ρ, m, rs, M, p⟩ => pts_nil.run pins s1 σ H1 Q I (PostG.ok M p)⟩) (fun s H C cl fp => (key s H C cl fp _ _ hy).1) hs) (fin (fc := (den F .yes).e))
      · obtain ⟨z, hz, h⟩ := Option.bind_eq_some_iff.mp h
        cases h
        exact psI (ps_setLc g.calm g.nd hi hx sw hi' (blkOk_by hb) (fun s H C cl fp => trT_ok (key s H C cl fp) (g.blk s H scope (compEnvC scope cl C X.env) fp) (fun _ z => z) 8 ht)
            (fun s H C cl fp => pts_one (key s H C cl fp _ _ hz).2) (fun s H C cl fp => (key s H C cl fp _ _ hy).1) hs) fin
      · cases h
    · cases h
theorem trSet_ok (b : BC S G F n X W) {k : Nat} {x : Str} {px : Pos} {e : Expr} {s : Ev.S} (h : trSet G X.N k X.env.scope x px e = some s) : PS X (.Assign [.Name x px] e pos) (evS S W (denS F s)) := by
  obtain ⟨hc, h⟩ := onB_some h
  obtain ⟨i, hi, h⟩ := Option.bind_eq_some_iff.mp h
  split at h
  · obtain ⟨hc, h⟩ := onB_some h
    simp only [Bool.and_eq_true, Bool.not_eq_true'] at hc
    obtain ⟨a, ha, h⟩ := Option.bind_eq_some_iff.mp h
    cases h
    exact comp_set b (locB_ok hc.1.1) (ixOf0 hi) hc.1.2 hc.2 ha
  · obtain ⟨hn, h⟩ := onB_some h
    obtain ⟨a, ha, h⟩ := Option.bind_eq_some_iff.mp h
    cases h
    exact q_set b.g (ixOf0 hi) (loc_of hc) (.inl (b.fn x)) ((trE_ok k b.g) _ _ ha).1 (sw_not (by simpa using hn))
theorem trAsg_ok (b : BC S G F n X W) {k : Nat} {tg e : Expr} {s : Ev.S} (h : trAsg G X.N k X.env.scope tg e = some s) : PS X (.Assign [tg] e pos) (evS S W (denS F s)) := by
  unfold trAsg at h
  split at h
  · exact trSet_ok b h
  · split at h
    · split at h
      · rename_i hm
        exact trGen_ok b h rfl (st_none3 hm) rfl
      · exact trPar_ok b h
    · rename_i hm
      exact trGen_ok b h rfl (st_none2 (by cases e <;> first | rfl | exact absurd rfl (hm _ _ _))) rfl
  · exact trGen_ok b h rfl (st_none1 rfl rfl) rfl
  · cases h
theorem trExpr_ok (b : BC S G F n X W) {k : Nat} {e : Expr} {s : Ev.S} (h : trExpr G X.N k X.env.scope e = some s) : PS X (.Expr e pos) (evS S W (denS F s)) := by
  unfold trExpr at h
  split at h
  · cases h
    exact q_doc
  · rename_i o at_ apos a cpos
    obtain ⟨hc, h2⟩ := onB_some h
    clear h
    simp only [Bool.and_eq_true, Bool.not_eq_true', decide_eq_true_eq] at hc
    obtain ⟨⟨⟨rfl, hl⟩, hp⟩, ho⟩ := hc
    have h := h2
    clear h2
    obtain ⟨x, hx, h⟩ := Option.bind_eq_some_iff.mp h
    obtain ⟨y, hy, h⟩ := Option.bind_eq_some_iff.mp h
    cases h
    have T := trE_ok k b.g
    exact q_append b.g (T _ _ hx).1 (T _ _ hy).1 hp (attr_base _ ho) hl
  · obtain ⟨hn, h⟩ := onB_some h
    obtain ⟨a, ha, h⟩ := Option.bind_eq_some_iff.mp h
    cases h
    exact q_expr ((trE_ok k b.g) _ _ ha).1 (sw_not (by simpa using hn))
theorem trSs_ok {tr : Stmt → Option Ev.S} (T : ∀ st s, tr st = some s → PS X st (evS S W (denS F s))) : ∀ (sts : List Stmt), PSs X sts (evS S W (denS F (trSs tr sts)))
  | [] => q_nil
  | st :: r => by
    refine q_cons (f := denS F ((tr st).getD dead)) ?_ (trSs_ok T r)
    cases e : tr st with
    | none => exact q_dead fun _ _ => rfl
    | some s => exact T st s e
theorem trS_ok (b : BC S G F n X W) (k : Nat) : ∀ j {st : Stmt} {s : Ev.S}, trS G X.N k j X.env.scope st = some s → PS X st (evS S W (denS F s))
  | 0, _, _, h => by cases h
  | j + 1, st, s, h => by
    have T := trE_ok k b.g
    have R := fun sts => trSs_ok (fun st s h => trS_ok b k j h) sts
    unfold trS at h
    split at h
    · exact trExpr_ok b h
    · cases h; exact q_ret0
    · obtain ⟨a, ha, h⟩ := Option.bind_eq_some_iff.mp h
      cases h
      exact q_ret (T _ _ ha).1
    · obtain ⟨a, ha, h⟩ := Option.bind_eq_some_iff.mp h
      cases h
      exact q_if (T _ _ ha).2 (R _) (R _)
    · obtain ⟨a, ha, h⟩ := Option.bind_eq_some_iff.mp h
      cases h
      exact q_while b.pass (T _ _ ha).2 (R _)
    · obtain ⟨a, ha, h⟩ := Option.bind_eq_some_iff.mp h
      obtain ⟨t, ht, h⟩ := Option.bind_eq_some_iff.mp h
      cases h
      obtain ⟨hi, hs⟩ := trI_ok T b.g ha
      exact q_for b.g b.pass hi (trT_ok T b.g (fun x _ => b.fn x) 8 ht) (R _) hs
    · exact trAsg_ok b h
    · obtain ⟨hc, h⟩ := onB_some h
      obtain ⟨i, hi, h⟩ := Option.bind_eq_some_iff.mp h
      obtain ⟨o, ho, h⟩ := Option.bind_eq_some_iff.mp h
      obtain ⟨hn, h⟩ := onB_some h
      obtain ⟨a, ha, h⟩ := Option.bind_eq_some_iff.mp h
      cases h
      rw [opOf_ok ho]
      exact q_aug b.g (ixOf0 hi) (loc_of hc) (.inl (b.fn _)) (T _ _ ha).1 (fun e => by rw [e] at hn; cases hn)
    · cases h; exact q_break
    · cases h; exact q_cont
    · cases h; exact q_pass
    · cases h
end
end Ev

set_option Elab.async false
set_option linter.all false
set_option maxRecDepth 100000
set_option maxHeartbeats 4000000
namespace Ev
open PySem PySem.Spec PyProof.Rows L2

/-! ## functions -/
section
variable {P : Program} {w : World} {K : PySem.W.Frag} {mg : Str → Option Value} {base : Heap}
theorem fng_of {k : Nat} {f : Addr} {x q : Str} {pm : Arguments} {body : List Stmt} {sc : Scope} {v1 v2 v3 v4 cd v5 oc : Value} {an od : Option Addr} {osl : Array (Option Value)} {N ps : List Str} {sp : Sp}
    (hf : K.lookup f = some ⟨oc, od, .func (PySem.W.fnOf x q pm body sc v1 v2 v3 v4 an cd v5), osl⟩) (hc : PySem.W.codeIn K cd q = true) (fs : FnScope N ps sc)
    (hb : ∀ (A : Around) (out : List PySem.Env) (t : Shared) (H : Hp) (vs : List V) (Q : VK) (E : XK), Room k (A.deeper (envOfC q sc t.heap.objs.size f cd)) → A.guards = some [] → sp vs H Q E →
      ∃ T, PSs (cxOf (L2.CX P w) P w K mg base N q sc f cd A out t H E) body T ∧ T { nx := fun _ H' => Q .non H', rt := Q } (L2.start N vs) H) :
    FnG P w K mg base (k + 1) f (PySem.W.fnOf x q pm body sc v1 v2 v3 v4 an cd v5) ps sp where
  run := by
    intro A out t H args us vs Q E hr hg e0 hbi rv hl hsp
    have inK := e0.mod.kin.keeps fun b o e => (e0.bs b o e).1
    have nol := e0.mod.nolimit.keeps fun b o e => (e0.bs b o e).1
    have kinds : ∀ y ∈ ps.zip us, sc.names.lookup y.1 = some .local ∨ (sc.names.lookup y.1 = some .cell ∧ ((cellsFrom (t.heap.objs.size + 1) sc.names []).lookup y.1).isSome = true) := by
      intro y hy
      rcases fs.par y.1 (List.of_mem_zip hy).1 with h | h
      · exact .inl h
      · exact .inr ⟨h, PySem.W.cellsFrom_some _ _ _ (.inl h)⟩
    refine codeAny_call_function hr.depth (inK _ _ hf) rfl fs.co fs.gen rfl (PySem.W.codeRec_of inK hc) (hbi _ _ _ _ ?_)
    refine wpAny_newFunctionEnv_cells fs.kind kinds fun env he t1 ic => ?_
    subst he
    refine ⟨nol.keeps ic.toInCall.keep, codeAny_func ?_⟩
    obtain ⟨T, hT, hq⟩ := hb A out t H vs Q E (hr.deeper _) hg hsp
    have I := inv_start (CX := L2.CX P w) (K := K) (mg := mg) (E := E) fs hr.hd e0 hl rv ic
    refine wpAny_mono (hT.run [] t1 (L2.start N vs) H _ I hq) (fun fl t2 hs => ?_) fun _ _ z => z
    cases fl with
    | ret u =>
      obtain ⟨v, σ2, H2, J, rv2, hq2⟩ := hs
      exact ⟨v, H2, J.os, J.bare, J.base, J.hok, rv2, hq2⟩
    | next =>
      obtain ⟨σ2, H2, J, hq2⟩ := hs
      exact ⟨V.non, H2, J.os, J.bare, J.base, J.hok, rfl, hq2⟩
    | brk => exact hs.elim fun _ z => z.elim fun _ z => z.2.elim
    | cont => exact hs.elim fun _ z => z.elim fun _ z => z.2.elim
end
theorem getR_app {a b : Rho} {i : Nat} {d : D} (hb : ∀ i d, getR b i ≠ some d) : getR (a ++ b) i = some d → getR a i = some d := by
  induction a generalizing i with
  | nil => intro h; exact absurd h (hb i d)
  | cons x r ih =>
    intro h
    cases i with
    | zero => exact h
    | succ i => exact ih h
theorem getR_rep {n i : Nat} {d : D} : getR (List.replicate n none) i ≠ some d := by
  induction n generalizing i with
  | zero => intro h; cases h
  | succ n ih =>
    intro h
    cases i with
    | zero => cases h
    | succ i => exact ih h
section
variable {S : Sta} {ι : Nat → Addr} {nx : Nat} {H : Hp}
theorem RepVs.at {ds : List D} {vs : List V} (r : RepVs S ι nx H ds vs) {i : Nat} {d : D} : getR (ds.map some) i = some d → ∃ v, (vs.map some)[i]? = some (some v) ∧ RepV S ι nx H d v := by
  induction ds generalizing vs i with
  | nil => intro h; cases h
  | cons e ds ih =>
    cases r with
    | cons r1 r =>
      intro h
      cases i with
      | zero => cases h; exact ⟨_, rfl, r1⟩
      | succ i => exact ih r h
theorem start_rep {f : Fn} {ds : List D} {vs : List V} {N : List Str} (r : RepVs S ι nx H ds vs) (hN : N.length = f.nl) : RepS S ι nx H (startR f ds) (L2.start N vs) where
  len := by
    unfold startR L2.start
    rw [List.length_append, List.length_append, List.length_map, List.length_map, List.length_replicate, List.length_replicate, r.len, hN]
  at_ := fun i d h => by
    obtain ⟨v, h1, h2⟩ := r.at (getR_app (fun _ _ => getR_rep) h)
    refine ⟨v, ?_, h2⟩
    unfold L2.start
    have hi : i < (vs.map some).length := by
      rw [List.getElem?_eq_some_iff] at h1
      exact h1.1
    rw [List.getElem?_append_left hi]
    exact h1
end
/-! ## the def's table -/
structure Ent where
  d : He.DefD
  ps : List Str
  N : List Str
  np : Nat
  nl : Nat
  body : S
def Ent.fn (e : Ent) : Fn := ⟨e.np, e.nl, e.body⟩
def nmS (f : Str × Option Str) : Str := f.1
/-- what is asked of an entry, of its text alone -/
def plainPar (p : Arguments) (ps : List Str) : Bool := match p with
  | ⟨[], as, none, [], [], none, []⟩ => decide (as.map (·.arg) = ps)
  | _ => false
def scopeB (N ps : List Str) (sc : Scope) : Bool := decide (sc.kind = .function) && !sc.isCoroutine && !sc.isGenerator && decide N.Nodup && decide (N.take ps.length = ps) &&
  (ps.all fun x => decide (sc.names.lookup x = some .local) || decide (sc.names.lookup x = some .cell)) && sc.names.all fun y => decide (y.2 ≠ .free)
theorem scopeB_ok {N ps : List Str} {sc : Scope} (h : scopeB N ps sc = true) : FnScope N ps sc := by
  simp only [scopeB, Bool.and_eq_true, Bool.not_eq_true', decide_eq_true_eq, List.all_eq_true, Bool.or_eq_true] at h
  obtain ⟨⟨⟨⟨⟨⟨h1, h2⟩, h3⟩, h4⟩, h5⟩, h6⟩, h7⟩ := h
  exact ⟨h1, h2, h3, h4, h5, h6, h7⟩
theorem filt_nil : ∀ {ps : List Str} {us : List Value} (qs : List Str), us.length = ps.length → (∀ x ∈ qs, x ∈ ps) → (qs.filter fun n => ((ps.zip us).lookup n).isNone) = [] := by
  intro ps us qs hl hq
  rw [List.filter_eq_nil_iff]
  intro x hx
  have key : ∀ {ps : List Str} {us : List Value}, us.length = ps.length → x ∈ ps → ((ps.zip us).lookup x).isSome = true := by
    intro ps
    induction ps with
    | nil => intro us _ h; cases h
    | cons p ps ih =>
      intro us hl h
      cases us with
      | nil => cases hl
      | cons u us =>
        rw [List.zip_cons_cons, List.lookup_cons]
        by_cases e : (x == p) = true
        · rw [e]; rfl
        · have e : (x == p) = false := by simpa using e
          rw [e]
          rcases List.mem_cons.mp h with rfl | h
          · simp at e
          · exact ih (by simpa using hl) h
  have := key hl (hq x hx)
  rw [Option.isSome_iff_ne_none] at this
  simpa using this
theorem zip_map : ∀ {ps : List Str} {us : List Value}, us.length = ps.length → ps.Nodup → (ps.filterMap fun n => ((ps.zip us).lookup n).map (n, ·)) = ps.zip us
  | [], _, _, _ => rfl
  | p :: ps, [], h, _ => by cases h
  | p :: ps, u :: us, h, nd => by
    obtain ⟨h1, h2⟩ := List.nodup_cons.mp nd
    have ih := zip_map (ps := ps) (us := us) (by simpa using h) h2
    rw [List.zip_cons_cons, List.filterMap_cons, List.lookup_cons]
    simp only [beq_self_eq_true, Option.map_some]
    congr 1
    have key : ∀ qs : List Str, (∀ x ∈ qs, x ≠ p) → (qs.filterMap fun n => (((p, u) :: ps.zip us).lookup n).map (n, ·)) = qs.filterMap fun n => ((ps.zip us).lookup n).map (n, ·) := by
      intro qs
      induction qs with
      | nil => intro _; rfl
      | cons x qs ih =>
        intro hq
        have e : (x == p) = false := by simpa using hq x (List.mem_cons_self ..)
        rw [List.filterMap_cons, List.filterMap_cons, List.lookup_cons, e, ih fun y hy => hq y (List.mem_cons_of_mem _ hy)]
    rw [key ps fun x hx e => h1 (e ▸ hx), ih]
theorem plain_bind0 {x q : Str} {as : List Arg} {body : List Stmt} {sc : Scope} {kV doc pmv : Value} {an : Option Addr} {cd ct : Value} (us : List Value) (hl : us.length = as.length) (nd : (as.map (·.arg)).Nodup) :
    bindArgs (PySem.W.fnOf x q ⟨[], as, none, [], [], none, []⟩ body sc .none kV doc pmv an cd ct) ⟨us, []⟩ = pure ((as.map (·.arg)).zip us) := by
  have e1 : seqItems? Value.none = pure none := rfl
  have hl' : us.length = (as.map (·.arg)).length := by rw [List.length_map]; exact hl
  have k1 := filt_nil (as.map (·.arg)) hl' fun x hx => hx
  have k2 := zip_map hl' nd
  unfold bindArgs PySem.W.fnOf
  simp only [List.map_nil, List.nil_append, List.append_nil, e1, pure_bind, Option.getD_none, List.drop_nil, List.length_nil, Nat.sub_zero, List.zip_nil_right, List.forIn_nil, List.take_length, k1, k2, List.isEmpty_nil, Bool.not_true, hl', Nat.lt_irrefl, gt_iff_lt, decide_false, Bool.false_and, if_false, Bool.false_eq_true, List.filter_nil]
theorem plain_bind {x q : Str} {pm : Arguments} {body : List Stmt} {sc : Scope} {kV doc pmv : Value} {an : Option Addr} {cd ct : Value} {ps : List Str} (h : plainPar pm ps = true) (nd : ps.Nodup) (us : List Value) (hl : us.length = ps.length) :
    bindArgs (PySem.W.fnOf x q pm body sc .none kV doc pmv an cd ct) ⟨us, []⟩ = pure (ps.zip us) := by
  unfold plainPar at h
  split at h
  · have h := of_decide_eq_true h
    subst h
    rw [List.length_map] at hl
    exact plain_bind0 us hl nd
  · cases h
def Ent.good (e : Ent) : Bool := plainPar e.d.params e.ps && scopeB e.N e.ps e.d.scope && Nat.beq e.ps.length e.np && Nat.beq e.N.length e.nl && e.d.dfl.isEmpty && e.d.kwd.isEmpty && (match e.d.at_.2 with | none => true | some _ => false)
def Ent.src (G : Glo) (e : Ent) : S := trSs (trS G e.N 60 60 e.d.scope) e.d.body
def tabT (es : List Ent) (k : Nat) : Option Fn := (es[k]?).map Ent.fn
/-- where the defs stand -/
def faOf (K : PySem.W.Frag) (es : List Ent) (k : Nat) : Addr := match es[k]? with
  | some e => He.fAd K e.d.at_
  | none => (match es with
    | e :: _ => He.fAd K e.d.at_
    | [] => 0)
/-- what the end gives -/
structure Facts (S : Sta) (G : Glo) (es : List Ent) (mg : Str → Option Value) : Prop where
  fa : S.fa = faOf S.K es
  gl : ∀ x d, G.g x = some d → ∃ u v, mg x = some u ∧ RelV v u ∧ ∀ ι nx H, RepV S ι nx H d v
  bl : ∀ x, G.b x = true → mg x = none
  kp : ∀ k, PySem.W.keepIn S.K (.ref (S.fa k)) = true
  df : ∀ e ∈ es, ∃ fd, FunD S.K e.d.name e.d.qual e.d.params e.d.body e.d.scope (e.d.dvs S.K) (e.d.kws S.K) (He.fAd S.K e.d.at_) fd
section
variable {S : Sta} {G : Glo} {es : List Ent} {mg : Str → Option Value} {P : Program} {w : World}
theorem RepX.tidy {ι' : Nat → Addr} {n : Nat} {m' : Mem} {H' : Hp} {x : Ex} {cls : Value} {dd : Option Addr} (r : RepX S ι' m'.nx H' x cls dd) (h : lowDs n x.arg = true) : RepX S ι' (tdM n m').nx H' x cls dd := by
  unfold tdM
  cases c : canCut n m' with
  | false => exact r
  | true =>
    obtain ⟨r1, r2⟩ := r
    refine ⟨r1, ?_⟩
    cases e : x.arg with
    | nil => trivial
    | cons d ds =>
      rw [e] at r2 h
      obtain ⟨a, fs, v, h1, h2, h3, h4⟩ := r2
      have h : (match lowD n d with | true => lowDs n ds | false => false) = true := h
      cases q : lowD n d with
      | true => exact ⟨a, fs, v, h1, h2, h3, h4.low q⟩
      | false => rw [q] at h; cases h
theorem fin_post {ι : Nat → Addr} {m : Mem} {H : Hp} {Q : VK} {E : XK} {o : OutS} (p : PostG S ι m H E (fin m.nx o) fun d ι' m' H' => ∀ v, RepV S ι' m'.nx H' d v → Q v H') :
    PostS S (fun cls d _ H => E cls d H) ι m H { nx := fun _ H' => Q .non H', rt := Q } o := by
  cases o with
  | nx ρ m' => exact fun ι' H' σ' T _ => p ι' H' T.tidy _ .non
  | ret d m' =>
    refine fun ι' H' v T r => ?_
    have p : PostG S ι m H E (finM m.nx d m') fun d ι' m' H' => ∀ v, RepV S ι' m'.nx H' d v → Q v H' := p
    have stay : PostG S ι m H E (.ok d m') (fun d ι' m' H' => ∀ v, RepV S ι' m'.nx H' d v → Q v H') → Q v H' := fun p => p ι' H' T v r
    unfold finM at p
    cases c : canCut m.nx m' with
    | false => rw [c] at p; exact stay p
    | true =>
      rw [c] at p
      cases l : lowD m.nx d with
      | true => rw [l] at p; exact p ι' H' (T.cut c) v (r.low l)
      | false =>
        rw [l] at p
        cases r with
        | @ref k hk =>
          dsimp only at p
          cases e : m'.get k with
          | none => rw [e] at p; exact stay p
          | some u =>
            rw [e] at p
            cases u with
            | lst ds =>
              dsimp only at p
              cases l2 : lowDs m.nx ds with
              | false => rw [l2] at p; exact stay p
              | true =>
                rw [l2] at p
                have hn : m.nx ≤ k := Nat.le_of_not_lt fun h => by
                  have l : Nat.blt k m.nx = false := l
                  rw [show Nat.blt k m.nx = true from Nat.ble_eq_true_of_le h] at l
                  cases l
                have rv : RepV S (bump ι' m.nx (ι' k)) (m.nx + 1) H' (.ref m.nx) (.ref (bump ι' m.nx (ι' k) m.nx)) := .ref (Nat.lt_succ_self _)
                rw [bump_same] at rv
                exact p _ H' (T.move c e hn l2) _ rv
            | rol ds => exact stay p
            | kol ds => exact stay p
            | scr ns => exact stay p
        | _ => exact stay p
  | exc x ρ m' =>
    refine fun ι' H' σ' cls dd T _ r => ?_
    have p : PostG S ι m H E (match lowDs m.nx x.arg with | true => .exc x (tdM m.nx m') | false => .exc x m') (fun d ι' m' H' => ∀ v, RepV S ι' m'.nx H' d v → Q v H') := p
    cases l : lowDs m.nx x.arg with
    | true => rw [l] at p; exact p ι' H' cls dd T.tidy (r.tidy l)
    | false => rw [l] at p; exact p ι' H' cls dd T r
  | brk ρ m' => exact False.elim p
  | cnt ρ m' => exact False.elim p
  | bad => exact p
def Lvl (S : Sta) (es : List Ent) (mg : Str → Option Value) (P : Program) (w : World) (n : Nat) : Prop := ∀ k ds m, run (tabT es) n k ds m ≠ .bad →
  ∃ fd ps, Binds S.K fd ps [] ∧ (∀ ds m, run (tabT es) n k ds m ≠ .bad → ds.length = ps.length) ∧ ∀ base, FnG P w S.K mg base n (S.fa k) fd ps (spF S (run (tabT es) n) k)
theorem lvl (FX : Facts S G es mg) (hg : ∀ e ∈ es, e.good = true) (hb : ∀ e ∈ es, e.body = e.src G) : ∀ n, Lvl S es mg P w n
  | 0 => fun k ds m h => absurd rfl h
  | n + 1 => fun k ds m h => by
    have ih := lvl FX hg hb n
    have e1 : ∃ e, es[k]? = some e := by
      cases q : es[k]? with
      | some e => exact ⟨e, rfl⟩
      | none =>
        refine absurd ?_ h
        unfold run tabT
        rw [q] <;> rfl
    obtain ⟨e, q⟩ := e1
    have hm := List.mem_of_getElem? q
    obtain ⟨fd, FD⟩ := FX.df e hm
    have ge := hg e hm
    simp only [Ent.good, Bool.and_eq_true] at ge
    obtain ⟨⟨⟨⟨⟨⟨g1, g2⟩, g3⟩, g4⟩, g5⟩, g6⟩, g7⟩ := ge
    have g5 := List.isEmpty_iff.mp g5
    have g6 := List.isEmpty_iff.mp g6
    have hps := Nat.eq_of_beq_eq_true g3
    have hN := Nat.eq_of_beq_eq_true g4
    have fs := scopeB_ok g2
    have dv : e.d.dvs S.K = [] := by unfold He.DefD.dvs; rw [g5]; rfl
    have kv : e.d.kws S.K = [] := by unfold He.DefD.kws; rw [g6]; rfl
    rw [dv] at FD
    have hrun : ∀ ds m, run (tabT es) (n + 1) k ds m = (match Nat.beq ds.length e.np && Nat.ble e.np e.nl with | true => fin m.nx (denS (run (tabT es) n) e.body (startR e.fn ds) m) | false => .bad) := fun ds m => by
      show (match tabT es k with | some f => (match Nat.beq ds.length f.np && Nat.ble f.np f.nl with | true => fin m.nx (denS (run (tabT es) n) f.body (startR f ds) m) | false => .bad) | none => .bad) = _
      unfold tabT
      rw [q] <;> rfl
    have hlen : ∀ ds m, run (tabT es) (n + 1) k ds m ≠ .bad → ds.length = e.ps.length := fun ds m hn => by
      rw [hrun] at hn
      cases c : Nat.beq ds.length e.np with
      | true => rw [Nat.eq_of_beq_eq_true c, hps]
      | false => rw [c] at hn; exact absurd rfl hn
    have hfa : S.fa k = He.fAd S.K e.d.at_ := by
      rw [FX.fa]
      unfold faOf
      rw [q]
    refine ⟨fd, e.ps, FD.bindsN (fun kV doc pmv an cd ct us hl => plain_bind g1 (by rw [← fs.pre]; exact fs.nd.take) us hl), hlen, fun base => ?_⟩
    obtain ⟨oc, od, dV, kV, doc, pmv, an, cd, ct, osl, rfl, lk, hcd, _, _⟩ := FD.ex
    rw [hfa]
    refine fng_of lk hcd fs fun A out t H vs Q E hr hgu ⟨ι, m1, ds1, rv, M, p⟩ => ?_
    have X0 : BC S G (run (tabT es) n) n (cxOf (L2.CX P w) P w S.K mg base e.N e.d.qual e.d.scope (He.fAd S.K e.d.at_) cd A out t H E) fun cls d _ H => E cls d H :=
      ⟨⟨fs.nd, rfl, hr, hgu, rfl, takes_of rfl rfl rfl rfl, FX.gl, FX.bl, FX.kp, fun k ds m hn => (ih k ds m hn).elim fun fd z => z.elim fun ps z => ⟨⟨fd, ps, z.1, z.2.1, z.2.2 base⟩⟩⟩, passes_of rfl, fun _ => rfl, fs.kind⟩
    refine ⟨_, trSs_ok (fun st s hs => trS_ok X0 60 60 hs) e.d.body, ι, startR e.fn ds1, m1, start_rep rv hN, M, ?_⟩
    have p := p
    rw [hrun] at p
    have hbd : e.body = trSs (trS G e.N 60 60 e.d.scope) e.d.body := hb e hm
    rw [hbd] at p
    cases c : Nat.beq ds1.length e.np && Nat.ble e.np e.nl with
    | false => rw [c] at p; exact False.elim p
    | true =>
      rw [c] at p
      exact fin_post p
end
end Ev

set_option Elab.async false
set_option linter.all false
set_option maxRecDepth 100000
set_option maxHeartbeats 4000000
namespace Ev
open PySem PySem.Spec PyProof.Rows L2

/-! ## the end: the law's own call -/
section
variable {P : Program} {w : World} {K : PySem.W.Frag} {mg mb : Str → Option Value}
theorem law_go {k : Nat} {f a : Addr} {fd : FuncData} {x : Str} {sp : Sp} {t : Shared} {us : List Value} {ns : List Int}
    (inK : K.In t.heap) (hg : t.heap.Ns mainGlobals mg) (hb : t.heap.Ns builtinsNs mb) (hbb : ∀ y : Str, y ≠ "__name__" → mb y = bootBuiltins y) (nol : t.heap.NoLimit) (gs : t.gens = #[])
    (hobj : t.heap.get? a = some { cls := .type "list", data := .seq us.toArray }) (hi : IntsAre us ns) (hz : ns.length ≤ sizeLine) (hr : Room k callerA)
    (FF : ∀ base : Heap, K.In base → base.Ns mainGlobals mg → FnG P w K mg base k f fd [x] sp) (hbi : Binds K fd [x] [])
    (hsp : ∀ H : Hp, Only H → SqL K H a (ns.map V.int) → sp [.ref a] H (fun v _ => v = .bl true) fun _ _ _ => False) :
    codeAny (model P w) callerA (.call (.ref f) ⟨[.ref a], []⟩) (fun r t' => r = .ok (.ret (.bool true)) ∧ OldK t.heap t'.heap ∧ t'.os = t.os ∧ AllBare t'.gens) t := by
  have rv := vals_ints hi
  have lu := hi.length
  have main : ∀ H : Hp, Only H → SqL K H a (ns.map V.int) → HOk P w H t.heap → (∀ b, H b ≠ none → b = a) → (H a ≠ none → K.lookup a = none) →
      codeAny (model P w) callerA (.call (.ref f) ⟨[.ref a], []⟩) (fun r t' => r = .ok (.ret (.bool true)) ∧ OldK t.heap t'.heap ∧ t'.os = t.os ∧ AllBare t'.gens) t := by
    intro H only sq ok one notK
    have atA : ∀ {b : Addr}, H b ≠ none → b = a := fun {b} h => one b h
    have keepB : ∀ {b : Addr} {o : Obj}, t.heap.get? b = some o → H b = none → (hidT t.heap H).get? b = some o := fun e h => hidT_get e h
    have dicts : ∀ {b : Addr} {o : Obj} {es : Array DictEntry} {ep : Nat}, t.heap.get? b = some o → o.data = .dict es ep → H b = none := by
      intro b o es ep e d
      refine Classical.byContradiction fun h => ?_
      rw [atA h, hobj] at e
      cases e
      have d : Data.seq us.toArray _ = Data.dict es ep := d
      cases d
    have names : ∀ {b : Addr} {m : Str → Option Value}, t.heap.Ns b m → (hidT t.heap H).Ns b m := fun ⟨o, es, ep, e, d, r⟩ => ⟨o, es, ep, keepB e (dicts e d), d, r⟩
    have inB : K.In (hidT t.heap H) := by
      intro b o e
      refine keepB (inK b o e) (Classical.byContradiction fun h => ?_)
      have q := atA h
      subst q
      rw [notK h] at e
      cases e
    have md : Mod K mg (hidT t.heap H) := ⟨inB, names hg, ⟨mb, names hb, hbb⟩, nol.elim fun mc h => ⟨mc, names h.1, h.2⟩⟩
    have e0 : Env0 P w K mg (hidT t.heap H) callerA [] t H :=
      ⟨rfl, md, fun b o e => of_hidT e, Nat.le_of_eq (hidT_size _ _), trivial, fun b z => (nomatch (show b ∈ ([] : List Addr) from z)), ok, .of_eq gs⟩
    refine codeAny_mono ((FF _ inB (names hg)).run callerA [] t H ⟨[.ref a], []⟩ [.ref a] [.ref a] _ _ hr rfl e0 (hbi t [.ref a] inK rfl) (.cons rfl .nil) rfl (hsp H only sq)) fun r t' h => ?_
    match r, h with
    | .error e, h =>
      obtain ⟨_, _, _, _, _, _, _, _, _, _, _, _, z⟩ := h
      exact False.elim z
    | .ok (.ret u), h =>
      obtain ⟨v, H', os, bare, un, ok', r', q⟩ := h
      have q : v = .bl true := q
      subst q
      have r' : u = Value.bool true := r'
      subst r'
      refine ⟨rfl, OldK.of_keep fun b o e => ?_, os, bare⟩
      by_cases h : H b = none
      · exact un.keep b o e h (fun z => (nomatch (show b ∈ ([] : List Addr) from z))) (by simp)
      · obtain ⟨ob, xs, z⟩ := (only b).resolve_left h
        have e1 := (ok b _ z).1
        have e2 := (ok' b _ (un.frzs b ob _ z)).1
        rw [e] at e1
        cases e1
        exact e2
    | .ok .next, h => exact False.elim h
    | .ok .brk, h => exact False.elim h
    | .ok .cont, h => exact False.elim h
  cases hk : K.lookup a with
  | some o =>
    have e := inK a o hk
    rw [hobj] at e
    cases e
    exact main (fun _ => none) (fun _ => .inl rfl) (.inr ⟨_, us.toArray, _, hk, rfl, rfl, rfl, by rw [List.size_toArray, lu]; exact hz, by simpa using rv⟩) (fun b u z => (nomatch (show (none : Option HO) = some u from z))) (fun b z => absurd rfl z) fun z => absurd rfl z
  | none =>
    have at1 : ∀ {b : Addr} {u : HO}, (if b = a then some (HO.frz { cls := .type "list", data := .seq us.toArray } (.lst (ns.map V.int))) else none) = some u → b = a ∧ u = .frz { cls := .type "list", data := .seq us.toArray } (.lst (ns.map V.int)) := by
      intro b u h
      split at h
      · exact ⟨by assumption, (Option.some.inj h).symm⟩
      · cases h
    refine main (fun b => if b = a then some (.frz { cls := .type "list", data := .seq us.toArray } (.lst (ns.map V.int))) else none) (fun b => ?_) (.inl (.inr ⟨_, if_pos rfl⟩)) (fun b u z => ?_) (fun b z => ?_) fun _ => hk
    · by_cases h : b = a
      · exact .inr ⟨_, _, if_pos h⟩
      · exact .inl (if_neg h)
    · obtain ⟨rfl, rfl⟩ := at1 z
      exact ⟨hobj, by rw [List.length_map]; exact hz, us, _, rv, hobj⟩
    · cases e : (if b = a then some (HO.frz { cls := .type "list", data := .seq us.toArray } (.lst (ns.map V.int))) else none) with
      | none => exact absurd e z
      | some u => exact (at1 e).1
end
/-! ## the facts, by one check of the heap's part -/
/-- a datum of the module -/
def repB (K : PySem.W.Frag) (es : List Ent) : Nat → D → Value → Bool
  | 0, _, _ => false
  | n + 1, d, u => match d, u with
    | .non, .none => true
    | .bl b, .bool c => b == c
    | .int i, .int j _ => decide (i = j)
    | .str x, .str y _ => decide (x = y)
    | .fn k, .ref a => decide (a = faOf K es k)
    | .tup ds, .ref a => (match K.lookup a with
      | some ⟨.type c, _, .seq its _, _⟩ => decide (c = "tuple") && decide (its.size ≤ sizeLine) && all2 (repB K es n) ds its.toList
      | _ => false)
    | _, _ => false
where all2 (f : D → Value → Bool) : List D → List Value → Bool
  | [], [] => true
  | d :: ds, u :: us => f d u && all2 f ds us
  | _, _ => false
theorem all2_ok {S : Sta} {f : D → Value → Bool} (hf : ∀ d u, f d u = true → ∃ v, RelV v u ∧ ∀ ι nx H, RepV S ι nx H d v) : ∀ {ds : List D} {us : List Value}, repB.all2 f ds us = true → ∃ vs, Vals vs us ∧ ∀ ι nx H, RepVs S ι nx H ds vs
  | [], [], _ => ⟨[], .nil, fun _ _ _ => .nil⟩
  | [], _ :: _, h => by cases h
  | _ :: _, [], h => by cases h
  | d :: ds, u :: us, h => by
    have h : (f d u && repB.all2 f ds us) = true := h
    rw [Bool.and_eq_true] at h
    obtain ⟨v, r, k⟩ := hf d u h.1
    obtain ⟨vs, rs, ks⟩ := all2_ok hf h.2
    exact ⟨v :: vs, .cons r rs, fun ι nx H => .cons (k ι nx H) (ks ι nx H)⟩
theorem repB_ok {S : Sta} {es : List Ent} (hfa : S.fa = faOf S.K es) : ∀ n {d : D} {u : Value}, repB S.K es n d u = true → ∃ v, RelV v u ∧ ∀ ι nx H, RepV S ι nx H d v
  | 0, _, _, h => by cases h
  | n + 1, d, u, h => by
    unfold repB at h
    split at h
    · exact ⟨.non, rfl, fun _ _ _ => .non⟩
    · rename_i b c
      have e : b = c := eq_of_beq h
      subst e
      exact ⟨.bl _, rfl, fun _ _ _ => .bl _⟩
    · rename_i i j t
      have e := of_decide_eq_true h
      subst e
      exact ⟨.int _, ⟨t, rfl⟩, fun _ _ _ => .int _⟩
    · rename_i x y t
      have e := of_decide_eq_true h
      subst e
      exact ⟨.str _, ⟨t, rfl⟩, fun _ _ _ => .str _⟩
    · rename_i k a
      have e := of_decide_eq_true h
      refine ⟨.ref a, rfl, fun _ _ _ => ?_⟩
      rw [e, ← hfa]
      exact .fn k
    · rename_i ds a
      cases q : S.K.lookup a with
      | none => rw [q] at h; cases h
      | some o =>
        rw [q] at h
        split at h
        · rename_i c x its y z e
          cases e
          simp only [Bool.and_eq_true, decide_eq_true_eq] at h
          obtain ⟨⟨rfl, hz⟩, h⟩ := h
          obtain ⟨vs, rv, k⟩ := all2_ok (S := S) (fun d u h => repB_ok hfa n h) h
          exact ⟨.ref a, rfl, fun ι nx H => .tup (.inr ⟨_, its, _, q, rfl, rfl, hz, rv⟩) (k ι nx H)⟩
        · cases h
    · cases h
/-- the module's names: a datum each, and those that it does not hold -/
def gloB (K : PySem.W.Frag) (es : List Ent) (gs : List (Str × D)) (bs : List Str) : Bool :=
  (gs.all fun p => match PySem.W.nsIn K mainGlobals p.1 with
    | some (some u) => repB K es 8 p.2 u
    | _ => false) &&
  bs.all fun x => match PySem.W.nsIn K mainGlobals x with
    | some none => true
    | _ => false
def gloOf (gs : List (Str × D)) (bs : List Str) : Glo := ⟨fun x => gs.lookup x, fun x => bs.contains x⟩
def kpB (K : PySem.W.Frag) (es : List Ent) : Bool := match es with
  | [] => false
  | e :: r => PySem.W.keepIn K (.ref (He.fAd K e.d.at_)) && r.all fun e => PySem.W.keepIn K (.ref (He.fAd K e.d.at_))
theorem kpB_ok {K : PySem.W.Frag} {es : List Ent} (h : kpB K es = true) (k : Nat) : PySem.W.keepIn K (.ref (faOf K es k)) = true := by
  unfold faOf
  cases es with
  | nil => cases h
  | cons e r =>
    have h : (PySem.W.keepIn K (.ref (He.fAd K e.d.at_)) && r.all fun e => PySem.W.keepIn K (.ref (He.fAd K e.d.at_))) = true := h
    rw [Bool.and_eq_true] at h
    cases q : (e :: r)[k]? with
    | none => exact h.1
    | some e' =>
      rcases List.mem_cons.mp (List.mem_of_getElem? q) with z | z
      · rw [z]; exact h.1
      · exact List.all_eq_true.mp h.2 e' z
abbrev AlX : Type := Bool × He.AlD
def obsX (chk : PySem.W.Frag → Bool) (es : List Ent) (gs : List (Str × D)) (bs : List Str) (K : PySem.W.Frag) : AlX := (gloB K es gs bs && kpB K es && chk K, He.obsD [] (es.map Ent.d) K)
def valX (es : List Ent) : AlX := (true, He.valD (es.map Ent.d))
def obsXG (n : Nat) (chk : PySem.W.Frag → Bool) (es : List Ent) (gs : List (Str × D)) (bs : List Str) (g : Addr → Option Obj) : AlX := obsX chk es gs bs (He.frG g (He.asD g n))
def SaysX (chk : PySem.W.Frag → Bool) (es : List Ent) (gs : List (Str × D)) (bs : List Str) (K : PySem.W.Frag) : Prop := obsX chk es gs bs K = valX es
def hookX (n : Nat) (chk : PySem.W.Frag → Bool) (es : List Ent) (gs : List (Str × D)) (bs : List Str) : PySem.W.Hook where
  α := AlX
  obs := fun s => obsXG n chk es gs bs s.heap.get?
  val := fun _ => valX es
  says := fun _ h => ∃ K : PySem.W.Frag, K.In h ∧ SaysX chk es gs bs K
  of := fun _ _ e => ⟨_, He.frG_in, e⟩
  keeps := fun _ _ _ ⟨K, a, c⟩ k => ⟨K, a.keeps k, c⟩
theorem obsXG_eq {n : Nat} {chk : PySem.W.Frag → Bool} {es : List Ent} {gs : List (Str × D)} {bs : List Str} {g : Addr → Option Obj} {s : Shared} (h : ∀ a, g a = s.heap.get? a) : obsXG n chk es gs bs g = (hookX n chk es gs bs).obs s := by
  have e : g = s.heap.get? := funext h
  rw [e] <;> rfl
def staOf (K : PySem.W.Frag) (es : List Ent) (cs : List (Str × Str)) : Sta := ⟨K, faOf K es, fun k => match cs[k]? with | some c => He.ga K c.1 | none => 0, fun k => match cs[k]? with | some c => c.2 | none => Str.empty⟩
theorem lookup_mem {gs : List (Str × D)} {x : Str} {d : D} (h : gs.lookup x = some d) : (x, d) ∈ gs := by
  induction gs with
  | nil => cases h
  | cons p gs ih =>
    rw [List.lookup_cons] at h
    split at h
    · rename_i e
      cases h
      have e := eq_of_beq e
      subst e
      exact List.mem_cons_self ..
    · exact List.mem_cons_of_mem _ (ih h)
theorem says_facts {chk : PySem.W.Frag → Bool} {es : List Ent} {gs : List (Str × D)} {bs : List Str} {cs : List (Str × Str)} {K : PySem.W.Frag} {h : Heap} {mg : Str → Option Value} (inK : K.In h) (hg : h.Ns mainGlobals mg) (c : SaysX chk es gs bs K) :
    Facts (staOf K es cs) (gloOf gs bs) es mg ∧ chk K = true := by
  have c1 : (gloB K es gs bs && kpB K es && chk K) = true := congrArg (fun z : AlX => z.1) c
  have c2 : He.SaysD [] (es.map Ent.d) K := congrArg (fun z : AlX => z.2) c
  simp only [Bool.and_eq_true] at c1
  obtain ⟨⟨g1, k1⟩, ch⟩ := c1
  unfold gloB at g1
  rw [Bool.and_eq_true] at g1
  refine ⟨⟨rfl, fun x d hx => ?_, fun x hx => ?_, fun k => kpB_ok k1 k, fun e he => ?_⟩, ch⟩
  · have hm := List.all_eq_true.mp g1.1 _ (lookup_mem hx)
    dsimp only at hm
    cases q : PySem.W.nsIn K mainGlobals x with
    | none => rw [q] at hm; cases hm
    | some o =>
      rw [q] at hm
      cases o with
      | none => cases hm
      | some u =>
        obtain ⟨v, r, k⟩ := repB_ok (S := staOf K es cs) rfl 8 hm
        exact ⟨u, v, PySem.W.mg_of inK hg q, r, k⟩
  · have hm := List.all_eq_true.mp g1.2 x (List.contains_iff_mem.mp hx)
    cases q : PySem.W.nsIn K mainGlobals x with
    | none => rw [q] at hm; cases hm
    | some o =>
      rw [q] at hm
      cases o with
      | some u => cases hm
      | none => exact PySem.W.mg_none_of inK hg q
  · obtain ⟨i, hi⟩ := List.getElem?_of_mem he
    exact c2.def_ i (by rw [List.getElem?_map, hi] <;> rfl)
/-! ## the end -/
/-- the law's promise from the evaluator's answer -/
structure LawOk (es : List Ent) (n kl : Nat) : Prop where
  ok : ∀ ns : List Int, ns.length ≤ 63 → ∃ m', run (tabT es) n kl [.ref 0] ⟨1, [(0, .scr ns)]⟩ = .ok (.bl true) m'
theorem law_spec {S : Sta} {es : List Ent} {n kl : Nat} {ns : List Int} (h : LawOk es n kl) (hz : ns.length ≤ 63) {H : Hp} {a : Addr} (only : Only H) (sq : SqL S.K H a (ns.map V.int)) : spF S (run (tabT es) n) kl [.ref a] H (fun v _ => v = .bl true) fun _ _ _ => False := by
  obtain ⟨m', e⟩ := h.ok ns hz
  have get0 : ∀ k o', (⟨1, [(0, .scr ns)]⟩ : Mem).get k = some o' → k = 0 ∧ o' = .scr ns := by
    intro k o' e
    have e : (match Nat.beq k 0 with | true => some (O.scr ns) | false => none) = some o' := e
    cases q : Nat.beq k 0 with
    | true => rw [q] at e; exact ⟨Nat.eq_of_beq_eq_true q, (Option.some.inj e).symm⟩
    | false => rw [q] at e; cases e
  have r : RepO S (fun _ => a) 1 H a (.scr ns) := by
    rcases sq with (sq | sq) | sq
    · rcases only a with z | ⟨o, xs, z⟩
      · rw [sq] at z; cases z
      · rw [sq] at z; cases z
    · exact .inr sq
    · exact .inl sq
  refine ⟨fun _ => a, ⟨1, [(0, .scr ns)]⟩, [.ref 0], .cons (.ref Nat.zero_lt_one) .nil, ⟨fun k o' e => ?_, fun k o' e => ?_, fun k k' o1 o2 e1 e2 _ _ _ => ?_⟩, ?_⟩
  · rw [(get0 k o' e).1]; exact Nat.zero_lt_one
  · obtain ⟨_, rfl⟩ := get0 k o' e; exact r
  · rw [(get0 k o1 e1).1, (get0 k' o2 e2).1]
  · rw [e]
    intro ι' H' _ v rv
    cases rv
    rfl
/-- the walk of a law -/
theorem walk_ev {l : PySem.W.OpenLaw} {q : Program} {loose : List Str} {XP : (Str → Option Value) → Heap → Prop} {d : DefRec} {N : Nat} {chk : PySem.W.Frag → Bool} {es : List Ent} {gs : List (Str × D)} {bs : List Str} {n kl : Nat}
    (hn : l.most = some 63) (hdf : d.params.defaults = []) (hr : Room n callerA) (hgl : gs.lookup d.name = some (.fn kl))
    (good : ∀ e ∈ es, e.good = true) (src : ∀ e ∈ es, e.body = e.src (gloOf gs bs)) (ok : LawOk es n kl) :
    PySem.W.WalkO q loose XP (hookX N chk es gs bs).says l.row.toRowW d [] (fun f vs => PySem.call f vs) := by
  refine Att.attach_call hn hdf fun w s₀ s₁ mg mb fa o pm cd doc a vs ns G Y ho hd hcd hmg hobj hints hlen hgs => ?_
  obtain ⟨K, inK, c⟩ := Y
  obtain ⟨FX, _⟩ := says_facts (cs := []) inK G.T.g c
  have hfa : fa = (staOf K es []).fa kl := by
    obtain ⟨u, v, h1, h2, h3⟩ := FX.gl d.name _ hgl
    rw [hmg] at h1
    cases h1
    have r := h3 (fun _ => 0) 0 (fun _ => none)
    cases r
    cases h2
    rfl
  obtain ⟨m', e1⟩ := ok.ok [] (by simp)
  have nb : run (tabT es) n kl [.ref 0] ⟨1, [(0, .scr [])]⟩ ≠ .bad := by rw [e1]; exact fun z => by cases z
  obtain ⟨fd, ps, hbi, hlen2, FF⟩ := lvl (P := l.prog) (w := w) FX good src n kl [.ref 0] _ nb
  have hl1 := hlen2 _ _ nb
  obtain ⟨x, rfl⟩ : ∃ x, ps = [x] := by
    match ps, hl1 with
    | [x], _ => exact ⟨x, rfl⟩
  subst hfa
  exact law_go inK G.T.g G.T.b G.T.builtins G.T.nolimit hgs hobj hints (Nat.le_trans hlen (by decide)) hr (fun base _ _ => FF base) hbi fun H only sq => law_spec ok hlen only sq
end Ev

set_option Elab.async false
set_option linter.all false
set_option maxRecDepth 100000
set_option maxHeartbeats 4000000
namespace Ev
open PySem L2

/-! ## the evaluator by equations -/
theorem mul_l {i j : Int} (h : b64 i = true) : binI .mul i j = some (i * j) := by
  show guardO (b64 i || b64 j || _) (i * j) = _
  rw [h] <;> rfl
theorem mul_r {i j : Int} (h : b64 j = true) : binI .mul i j = some (i * j) := by
  show guardO (b64 i || b64 j || _) (i * j) = _
  rw [h]; cases b64 i <;> rfl
section
variable {i j : Int} {m : Mem}
theorem mulF_r (h : b64 j = true) : binF .mul (.int i) (.int j) m = .ok (.int (i * j)) m := by unfold binF; dsimp only; rw [mul_r h] <;> rfl
theorem mulF_l (h : b64 i = true) : binF .mul (.int i) (.int j) m = .ok (.int (i * j)) m := by unfold binF; dsimp only; rw [mul_l h] <;> rfl
theorem addF : binF .add (.int i) (.int j) m = .ok (.int (i + j)) m := rfl
theorem subF : binF .sub (.int i) (.int j) m = .ok (.int (i - j)) m := rfl
theorem fdivF (h : decide (j = 0) = false) (h2 : Nat.blt j.natAbs.log2 9000 = true) : binF .fdiv (.int i) (.int j) m = .ok (.int (i.fdiv j)) m := by
  have e : binI .fdiv i j = some (i.fdiv j) := by
    show guardO (!decide (j = 0) && _) _ = _
    rw [h, h2] <;> rfl
  unfold binF; dsimp only; rw [e] <;> rfl
theorem modF (h : decide (j = 0) = false) : binF .mod (.int i) (.int j) m = .ok (.int (i.fmod j)) m := by
  have e : binI .mod i j = some (i.fmod j) := by
    show guardO (!decide (j = 0)) _ = _
    rw [h] <;> rfl
  unfold binF; dsimp only; rw [e] <;> rfl
theorem ltM : cmpM .lt (.int i) (.int j) m = .ok (.bl (decide (i < j))) m := rfl
theorem leM : cmpM .le (.int i) (.int j) m = .ok (.bl (decide (i ≤ j))) m := rfl
theorem gtM : cmpM .gt (.int i) (.int j) m = .ok (.bl (decide (j < i))) m := rfl
theorem geM : cmpM .ge (.int i) (.int j) m = .ok (.bl (decide (j ≤ i))) m := rfl
theorem eqM : cmpM .eq (.int i) (.int j) m = .ok (.bl (decide (i = j))) m := rfl
theorem neM : cmpM .ne (.int i) (.int j) m = .ok (.bl (!decide (i = j))) m := rfl
end
section
variable {es : List Ent}
theorem run_at {n k : Nat} {f : Fn} {ds : List D} {m : Mem} (h : tabT es k = some f) (h1 : (Nat.beq ds.length f.np && Nat.ble f.np f.nl) = true) : run (tabT es) (n + 1) k ds m = fin m.nx (denS (run (tabT es) n) f.body (startR f ds) m) := by
  show (match tabT es k with | some f => (match Nat.beq ds.length f.np && Nat.ble f.np f.nl with | true => fin m.nx (denS (run (tabT es) n) f.body (startR f ds) m) | false => .bad) | none => .bad) = _
  rw [h]
  dsimp only
  rw [h1]
end
section
variable {a b c d : D} {m : Mem}
theorem ix20 : ixF (.tup [a, b]) (.int 0) m = .ok a m := rfl
theorem ix21 : ixF (.tup [a, b]) (.int 1) m = .ok b m := rfl
theorem ix30 : ixF (.tup [a, b, c]) (.int 0) m = .ok a m := rfl
theorem ix31 : ixF (.tup [a, b, c]) (.int 1) m = .ok b m := rfl
theorem ix32 : ixF (.tup [a, b, c]) (.int 2) m = .ok c m := rfl
theorem ix40 : ixF (.tup [a, b, c, d]) (.int 0) m = .ok a m := rfl
theorem ix41 : ixF (.tup [a, b, c, d]) (.int 1) m = .ok b m := rfl
theorem ix42 : ixF (.tup [a, b, c, d]) (.int 2) m = .ok c m := rfl
theorem ix43 : ixF (.tup [a, b, c, d]) (.int 3) m = .ok d m := rfl
theorem len0 : lenF (.tup []) m = .ok (.int 0) m := rfl
theorem len1 : lenF (.tup [a]) m = .ok (.int 1) m := rfl
theorem len2 : lenF (.tup [a, b]) m = .ok (.int 2) m := rfl
theorem len3 : lenF (.tup [a, b, c]) m = .ok (.int 3) m := rfl
theorem len4 : lenF (.tup [a, b, c, d]) m = .ok (.int 4) m := rfl
theorem len5 {e : D} : lenF (.tup [a, b, c, d, e]) m = .ok (.int 5) m := rfl
theorem newL_ok {xs : List D} (h : Nat.ble xs.length 16000000 = true) : newL xs m = .ok (.ref m.nx) (m.new (.lst xs)) := by
  unfold newL
  rw [h]
theorem catF {xs ys : List D} (h : sizeB (xs.length + ys.length) = true) : binF .add (.tup xs) (.tup ys) m = .ok (.tup (xs ++ ys)) m := by
  show opt (guardO (sizeB (xs.length + ys.length)) (D.tup (xs ++ ys))) m = _
  rw [h] <;> rfl
end
section
variable {α : Type} {m : Mem} {A B : Out α} {x y : Bool}
theorem sel_t : sel (.bl true) A B = A := rfl
theorem sel_f : sel (.bl false) A B = B := rfl
theorem selAnd : sel (.bl x) (Out.ok (D.bl y) m) (Out.ok (D.bl false) m) = Out.ok (D.bl (x && y)) m := by cases x <;> rfl
theorem selOr : sel (.bl x) (Out.ok (D.bl true) m) (Out.ok (D.bl y) m) = Out.ok (D.bl (x || y)) m := by cases x <;> rfl
theorem selNot : sel (.bl x) (Out.ok (D.bl false) m) (Out.ok (D.bl true) m) = Out.ok (D.bl !x) m := by cases x <;> rfl
theorem truth_bl : truth (.bl x) m = .ok x m := rfl
end
structure WF (m : Mem) : Prop where
  low : lowM m.nx m.ob = true
  gc : gcL m.nx m.ob = m.ob
section
variable {n : Nat} {d : D} {m : Mem} {o : O} {ρ : Rho}
theorem canCut_same : canCut m.nx m = false := by unfold canCut; rw [Nat.beq_refl]
theorem finM_same : finM m.nx d m = .ok d m := by unfold finM; rw [canCut_same]
theorem tdM_same : tdM m.nx m = m := by unfold tdM; rw [canCut_same]
theorem tdR_same : tdR m.nx m ρ = ρ := by unfold tdR; rw [canCut_same]
theorem tdS_same : tdS m.nx ρ m = m := by unfold tdS; rw [canCut_same]
theorem tdS_nx {m' : Mem} (h : m'.nx = m.nx) : tdS m.nx ρ m' = m' := by rw [← h]; exact tdS_same
theorem tdS_put {k : Nat} : tdS m.nx ρ (m.put k o) = m.put k o := tdS_nx rfl
theorem blt_self : Nat.blt n n = false := by
  cases e : Nat.blt n n with
  | false => rfl
  | true => exact absurd (Nat.le_of_ble_eq_true e) (Nat.not_succ_le_self n)
theorem nx_new : (m.new o).nx = m.nx + 1 := rfl
theorem canCut_new (w : WF m) : canCut m.nx (m.new o) = true := by
  show (match Nat.beq (m.nx + 1) m.nx with | true => false | false => lowM m.nx ((m.nx, o) :: m.ob)) = true
  rw [nbf (by omega)]
  show (match Nat.blt m.nx m.nx with | true => _ | false => lowM m.nx m.ob) = true
  rw [blt_self]
  exact w.low
theorem cutM_new (w : WF m) : cutM m.nx (m.new o) = m := by
  show (⟨m.nx, match Nat.blt m.nx m.nx with | true => _ | false => gcL m.nx m.ob⟩ : Mem) = m
  rw [blt_self]
  dsimp only
  rw [w.gc]
/-- a call that has made one list and gives nothing of it -/
theorem finM_new (w : WF m) (h : lowD m.nx d = true) : finM m.nx d (m.new o) = .ok d m := by
  unfold finM
  rw [canCut_new w, h, cutM_new w]
theorem tdM_new (w : WF m) : tdM m.nx (m.new o) = m := by unfold tdM; rw [canCut_new w, cutM_new w]
theorem lst_new {ds : List D} : (m.new (.lst ds)).lst m.nx = some ds := by
  unfold Mem.lst
  rw [look_new, if_pos rfl]
theorem lst_old {k : Nat} (h : k ≠ m.nx) : (m.new o).lst k = m.lst k := by
  unfold Mem.lst
  rw [look_new, if_neg h]
theorem lowM_app {l r : List (Nat × O)} (h : ∀ p ∈ l, n ≤ p.1) : lowM n (l ++ r) = lowM n r := by
  induction l with
  | nil => rfl
  | cons p l ih =>
    have hp : Nat.blt p.1 n = false := by
      cases e : Nat.blt p.1 n with
      | false => rfl
      | true => exact absurd (Nat.le_of_ble_eq_true e) (by have := h p (List.mem_cons_self ..); omega)
    show (match Nat.blt p.1 n with | true => _ | false => lowM n (l ++ r)) = _
    rw [hp]
    exact ih fun q hq => h q (List.mem_cons_of_mem _ hq)
theorem gcL_app {l r : List (Nat × O)} (h : ∀ p ∈ l, n ≤ p.1) : gcL n (l ++ r) = gcL n r := by
  induction l with
  | nil => rfl
  | cons p l ih =>
    have hp : Nat.blt p.1 n = false := by
      cases e : Nat.blt p.1 n with
      | false => rfl
      | true => exact absurd (Nat.le_of_ble_eq_true e) (by have := h p (List.mem_cons_self ..); omega)
    show (match Nat.blt p.1 n with | true => _ | false => gcL n (l ++ r)) = _
    rw [hp]
    exact ih fun q hq => h q (List.mem_cons_of_mem _ hq)
/-- behind calls that have made lists, and give nothing of them -/
theorem canCut_ext {l : List (Nat × O)} {nx : Nat} (w : WF m) (h : ∀ p ∈ l, m.nx ≤ p.1) (hn : m.nx < nx) : canCut m.nx ⟨nx, l ++ m.ob⟩ = true := by
  show (match Nat.beq nx m.nx with | true => false | false => lowM m.nx (l ++ m.ob)) = true
  rw [nbf (by omega)]
  dsimp only
  rw [lowM_app h]
  exact w.low
theorem finM_ext {l : List (Nat × O)} {nx : Nat} (w : WF m) (h : ∀ p ∈ l, m.nx ≤ p.1) (hn : m.nx < nx) (hd : lowD m.nx d = true) : finM m.nx d ⟨nx, l ++ m.ob⟩ = .ok d m := by
  unfold finM
  rw [canCut_ext w h hn, hd]
  show Out.ok d (⟨m.nx, gcL m.nx (l ++ m.ob)⟩ : Mem) = _
  rw [gcL_app h, w.gc]
theorem tdS_new (w : WF m) (h : lowAll m.nx ρ = true) : tdS m.nx ρ (m.new o) = m := by
  unfold tdS
  rw [canCut_new w, h, cutM_new w]
theorem tdS_ext {l : List (Nat × O)} {nx : Nat} (w : WF m) (h : ∀ p ∈ l, m.nx ≤ p.1) (hn : m.nx < nx) (hd : lowAll m.nx ρ = true) : tdS m.nx ρ ⟨nx, l ++ m.ob⟩ = m := by
  unfold tdS
  rw [canCut_ext w h hn, hd]
  show (⟨m.nx, gcL m.nx (l ++ m.ob)⟩ : Mem) = _
  rw [gcL_app h, w.gc]
end
end Ev

set_option Elab.async false
set_option linter.all false
set_option maxRecDepth 100000
set_option maxHeartbeats 0
namespace Pf
open PySem L2 Ev
def top (i : Nat) : Stmt := PySem.Challenge.pw_turnseries_k70_whole_shapes_reduced.main.body.getD i (.Pass ⟨0, 0, 0, 0⟩)
def dOf (x : Str) (i : Nat) : He.DefD := ⟨(x, none), x, x, defArgs (top i), defBody (top i), defScope (top i), [], []⟩
-- is_integer
def e0 : Ent := ⟨dOf "is_integer" 8, ["value"], ["value"], 1, 1,
  (.seq (.ret (.band (.blt .isinst (.cons (.var 0) (.cons (.const (.ty .int)) .nil))) (.bnot (.blt .isinst (.cons (.var 0) (.cons (.const (.ty .bool)) .nil)))))) .skip)⟩
-- is_within
def e1 : Ent := ⟨dOf "is_within" 9, ["value", "low", "most"], ["value", "low", "most"], 3, 3,
  (.seq (.ret (.band (.call 0 (.cons (.var 0) .nil)) (.chain .le .le (.var 1) (.var 0) (.var 2)))) .skip)⟩
-- is_shape_in
def e2 : Ent := ⟨dOf "is_shape_in" 10, ["value"], ["value", "one"], 1, 2,
  (.seq (.iff (.bor (.bnot (.blt .isinst (.cons (.var 0) (.cons (.const (.ty .tuple)) .nil)))) (.cmp .ne (.blt .len (.cons (.var 0) .nil)) (.const (.int 3)))) (.seq (.ret (.const (.bl false))) .skip) .skip) (.seq (.iff (.bnot (.blt .all (.cons (.comp [1] (.tnm 1) (.var 0) .yes (.call 1 (.cons (.var 1) (.cons (.neg (.const (.int 1000000))) (.cons (.const (.int 1000000)) .nil))))) .nil))) (.seq (.ret (.const (.bl false))) .skip) .skip) (.seq (.ret (.band (.cmp .gt (.ix (.var 0) (.const (.int 0))) (.const (.int 0))) (.cmp .gt (.call 4 (.cons (.var 0) .nil)) (.const (.int 0))))) .skip)))⟩
-- require_shape
def e3 : Ent := ⟨dOf "require_shape" 11, ["shape"], ["shape"], 1, 1,
  (.seq (.iff (.bnot (.call 2 (.cons (.var 0) .nil))) (.seq (.raise 0 .no) .skip) .skip) .skip)⟩
-- lack_in
def e4 : Ent := ⟨dOf "lack_in" 12, ["shape"], ["shape"], 1, 1,
  (.seq (.ret (.bin .sub (.bin .mul (.bin .mul (.const (.int 4)) (.ix (.var 0) (.const (.int 0)))) (.ix (.var 0) (.const (.int 2)))) (.bin .mul (.ix (.var 0) (.const (.int 1))) (.ix (.var 0) (.const (.int 1)))))) .skip)⟩
-- is_reduced_in
def e5 : Ent := ⟨dOf "is_reduced_in" 13, ["shape"], ["shape", "first", "middle", "last"], 1, 4,
  (.seq (.asg (.ttup (.tcons (.tnm 1) (.tcons (.tnm 2) (.tcons (.tnm 3) .tnil)))) (.var 0)) (.seq (.iff (.bor (.cmp .gt (.blt .abs (.cons (.var 2) .nil)) (.var 1)) (.cmp .gt (.var 1) (.var 3))) (.seq (.ret (.const (.bl false))) .skip) .skip) (.seq (.ret (.bor (.cmp .ge (.var 2) (.const (.int 0))) (.band (.cmp .ne (.bin .sub (.const (.int 0)) (.var 2)) (.var 1)) (.cmp .ne (.var 1) (.var 3))))) .skip)))⟩
-- led_in
def e6 : Ent := ⟨dOf "led_in" 14, ["shape", "table"], ["shape", "table", "first", "middle", "last", "p", "q", "r", "s"], 2, 9,
  (.seq (.asg (.ttup (.tcons (.tnm 2) (.tcons (.tnm 3) (.tcons (.tnm 4) .tnil)))) (.var 0)) (.seq (.asg (.ttup (.tcons (.tnm 5) (.tcons (.tnm 6) (.tcons (.tnm 7) (.tcons (.tnm 8) .tnil))))) (.var 1)) (.seq (.ret (.tup (.cons (.bin .add (.bin .add (.bin .mul (.bin .mul (.var 2) (.var 5)) (.var 5)) (.bin .mul (.bin .mul (.var 3) (.var 5)) (.var 7))) (.bin .mul (.bin .mul (.var 4) (.var 7)) (.var 7))) (.cons (.bin .add (.bin .add (.bin .mul (.bin .mul (.bin .mul (.const (.int 2)) (.var 2)) (.var 5)) (.var 6)) (.bin .mul (.var 3) (.bin .add (.bin .mul (.var 5) (.var 8)) (.bin .mul (.var 6) (.var 7))))) (.bin .mul (.bin .mul (.bin .mul (.const (.int 2)) (.var 4)) (.var 7)) (.var 8))) (.cons (.bin .add (.bin .add (.bin .mul (.bin .mul (.var 2) (.var 6)) (.var 6)) (.bin .mul (.bin .mul (.var 3) (.var 6)) (.var 8))) (.bin .mul (.bin .mul (.var 4) (.var 8)) (.var 8))) .nil))))) .skip)))⟩
-- times_in
def e7 : Ent := ⟨dOf "times_in" 15, ["one", "other"], ["one", "other", "p", "q", "r", "s", "a", "b", "c", "d"], 2, 10,
  (.seq (.asg (.ttup (.tcons (.tnm 2) (.tcons (.tnm 3) (.tcons (.tnm 4) (.tcons (.tnm 5) .tnil))))) (.var 0)) (.seq (.asg (.ttup (.tcons (.tnm 6) (.tcons (.tnm 7) (.tcons (.tnm 8) (.tcons (.tnm 9) .tnil))))) (.var 1)) (.seq (.ret (.tup (.cons (.bin .add (.bin .mul (.var 2) (.var 6)) (.bin .mul (.var 3) (.var 8))) (.cons (.bin .add (.bin .mul (.var 2) (.var 7)) (.bin .mul (.var 3) (.var 9))) (.cons (.bin .add (.bin .mul (.var 4) (.var 6)) (.bin .mul (.var 5) (.var 8))) (.cons (.bin .add (.bin .mul (.var 4) (.var 7)) (.bin .mul (.var 5) (.var 9))) .nil)))))) .skip)))⟩
-- reduced_in
def e8 : Ent := ⟨dOf "reduced_in" 16, ["shape"], ["shape", "found", "table", "first", "middle", "_", "step"], 1, 7,
  (.seq (.par 1 2 (.cons (.var 0) (.cons (.const (.tup [(.int 1), (.int 0), (.int 0), (.int 1)])) .nil))) (.seq (.whil (.bnot (.call 5 (.cons (.var 1) .nil))) (.seq (.asg (.ttup (.tcons (.tnm 3) (.tcons (.tnm 4) (.tcons (.tnm 5) .tnil)))) (.var 1)) (.seq (.asg (.tnm 6) (.tup (.cons (.const (.int 1)) (.cons (.bin .fdiv (.bin .sub (.var 3) (.var 4)) (.bin .mul (.const (.int 2)) (.var 3))) (.cons (.const (.int 0)) (.cons (.const (.int 1)) .nil)))))) (.seq (.par 1 2 (.cons (.call 6 (.cons (.var 1) (.cons (.var 6) .nil))) (.cons (.call 7 (.cons (.var 2) (.cons (.var 6) .nil))) .nil))) (.seq (.iff (.bnot (.call 5 (.cons (.var 1) .nil))) (.seq (.asg (.tnm 6) (.tup (.cons (.const (.int 0)) (.cons (.neg (.const (.int 1))) (.cons (.const (.int 1)) (.cons (.const (.int 0)) .nil)))))) (.seq (.par 1 2 (.cons (.call 6 (.cons (.var 1) (.cons (.var 6) .nil))) (.cons (.call 7 (.cons (.var 2) (.cons (.var 6) .nil))) .nil))) .skip)) .skip) .skip))))) (.seq (.ret (.tup (.cons (.var 1) (.cons (.var 2) .nil)))) .skip)))⟩
-- back_of
def e9 : Ent := ⟨dOf "back_of" 17, ["table"], ["table", "p", "q", "r", "s"], 1, 5,
  (.seq (.asg (.ttup (.tcons (.tnm 1) (.tcons (.tnm 2) (.tcons (.tnm 3) (.tcons (.tnm 4) .tnil))))) (.var 0)) (.seq (.ret (.tup (.cons (.var 4) (.cons (.bin .sub (.const (.int 0)) (.var 2)) (.cons (.bin .sub (.const (.int 0)) (.var 3)) (.cons (.var 1) .nil)))))) .skip))⟩
-- is_shape
def e10 : Ent := ⟨dOf "is_shape" 18, ["value"], ["value"], 1, 1,
  (.seq (.ret (.call 2 (.cons (.var 0) .nil))) .skip)⟩
-- lack
def e11 : Ent := ⟨dOf "lack" 19, ["shape"], ["shape"], 1, 1,
  (.seq (.expr (.call 3 (.cons (.var 0) .nil))) (.seq (.ret (.call 4 (.cons (.var 0) .nil))) .skip))⟩
-- is_reduced
def e12 : Ent := ⟨dOf "is_reduced" 20, ["shape"], ["shape"], 1, 1,
  (.seq (.expr (.call 3 (.cons (.var 0) .nil))) (.seq (.ret (.call 5 (.cons (.var 0) .nil))) .skip))⟩
-- reduced
def e13 : Ent := ⟨dOf "reduced" 21, ["shape"], ["shape"], 1, 1,
  (.seq (.expr (.call 3 (.cons (.var 0) .nil))) (.seq (.ret (.ix (.call 8 (.cons (.var 0) .nil)) (.const (.int 0)))) .skip))⟩
-- reducing_table
def e14 : Ent := ⟨dOf "reducing_table" 22, ["shape"], ["shape"], 1, 1,
  (.seq (.expr (.call 3 (.cons (.var 0) .nil))) (.seq (.ret (.ix (.call 8 (.cons (.var 0) .nil)) (.const (.int 1)))) .skip))⟩
-- are_led
def e15 : Ent := ⟨dOf "are_led" 23, ["one", "other"], ["one", "other"], 2, 2,
  (.seq (.expr (.call 3 (.cons (.var 0) .nil))) (.seq (.expr (.call 3 (.cons (.var 1) .nil))) (.seq (.ret (.cmp .eq (.ix (.call 8 (.cons (.var 0) .nil)) (.const (.int 0))) (.ix (.call 8 (.cons (.var 1) .nil)) (.const (.int 0))))) .skip)))⟩
-- led_paper
def e16 : Ent := ⟨dOf "led_paper" 24, ["one", "other"], ["one", "other", "first", "table", "second", "back"], 2, 6,
  (.seq (.expr (.call 3 (.cons (.var 0) .nil))) (.seq (.expr (.call 3 (.cons (.var 1) .nil))) (.seq (.asg (.ttup (.tcons (.ttup (.tcons (.tnm 2) (.tcons (.tnm 3) .tnil))) (.tcons (.ttup (.tcons (.tnm 4) (.tcons (.tnm 5) .tnil))) .tnil))) (.tup (.cons (.call 8 (.cons (.var 0) .nil)) (.cons (.call 8 (.cons (.var 1) .nil)) .nil)))) (.seq (.iff (.cmp .ne (.var 2) (.var 4)) (.seq (.ret (.tup (.cons (.const (.str "apart")) (.cons (.var 2) (.cons (.var 4) .nil))))) .skip) .skip) (.seq (.ret (.tup (.cons (.const (.str "by")) (.cons (.call 7 (.cons (.var 3) (.cons (.call 9 (.cons (.var 5) .nil)) .nil))) .nil)))) .skip)))))⟩
-- is_led_paper
def e17 : Ent := ⟨dOf "is_led_paper" 25, ["one", "other", "value"], ["one", "other", "value", "told"], 3, 4,
  (.seq (.expr (.call 3 (.cons (.var 0) .nil))) (.seq (.expr (.call 3 (.cons (.var 1) .nil))) (.seq (.iff (.bor (.bnot (.blt .isinst (.cons (.var 2) (.cons (.const (.ty .tuple)) .nil)))) (.bor (.cmp .eq (.var 2) (.tup .nil)) (.bnot (.blt .isinst (.cons (.ix (.var 2) (.const (.int 0))) (.cons (.const (.ty .str)) .nil)))))) (.seq (.ret (.const (.bl false))) .skip) .skip) (.seq (.iff (.cmp .eq (.ix (.var 2) (.const (.int 0))) (.const (.str "by"))) (.seq (.ret (.band (.cmp .eq (.blt .len (.cons (.var 2) .nil)) (.const (.int 2))) (.band (.call 18 (.cons (.ix (.var 2) (.const (.int 1))) .nil)) (.cmp .eq (.call 6 (.cons (.var 0) (.cons (.ix (.var 2) (.const (.int 1))) .nil))) (.var 1))))) .skip) .skip) (.seq (.iff (.bor (.cmp .ne (.ix (.var 2) (.const (.int 0))) (.const (.str "apart"))) (.bor (.cmp .ne (.blt .len (.cons (.var 2) .nil)) (.const (.int 3))) (.bor (.bnot (.call 2 (.cons (.ix (.var 2) (.const (.int 1))) .nil))) (.bnot (.call 2 (.cons (.ix (.var 2) (.const (.int 2))) .nil)))))) (.seq (.ret (.const (.bl false))) .skip) .skip) (.seq (.asg (.tnm 3) (.tup (.cons (.ix (.call 8 (.cons (.var 0) .nil)) (.const (.int 0))) (.cons (.ix (.call 8 (.cons (.var 1) .nil)) (.const (.int 0))) .nil)))) (.seq (.ret (.band (.cmp .eq (.slice (.var 2) (.const (.int 1)) .no) (.var 3)) (.cmp .ne (.ix (.var 3) (.const (.int 0))) (.ix (.var 3) (.const (.int 1)))))) .skip)))))))⟩
-- is_table
def e18 : Ent := ⟨dOf "is_table" 26, ["value"], ["value", "one"], 1, 2,
  (.seq (.iff (.bor (.bnot (.blt .isinst (.cons (.var 0) (.cons (.const (.ty .tuple)) .nil)))) (.bor (.cmp .ne (.blt .len (.cons (.var 0) .nil)) (.const (.int 4))) (.bnot (.blt .all (.cons (.comp [1] (.tnm 1) (.var 0) .yes (.call 0 (.cons (.var 1) .nil))) .nil))))) (.seq (.ret (.const (.bl false))) .skip) .skip) (.seq (.ret (.cmp .eq (.bin .sub (.bin .mul (.ix (.var 0) (.const (.int 0))) (.ix (.var 0) (.const (.int 3)))) (.bin .mul (.ix (.var 0) (.const (.int 1))) (.ix (.var 0) (.const (.int 2))))) (.const (.int 1)))) .skip))⟩
-- _law_dice
def e19 : Ent := ⟨dOf "_law_dice" 28, ["script", "spot"], ["script", "spot", "cell", "great", "seed"], 2, 5,
  (.seq (.asg (.tnm 2) (.ite (.cmp .lt (.var 1) (.blt .len (.cons (.var 0) .nil))) (.blt .int (.cons (.ix (.var 0) (.var 1)) .nil)) (.bin .add (.bin .mul (.const (.int 139)) (.var 1)) (.const (.int 71))))) (.seq (.asg (.tnm 3) (.bin .mod (.blt .int (.cons (.blt .abs (.cons (.var 2) .nil)) .nil)) (.bin .pow (.bin .pow (.const (.int 10)) (.const (.int 54))) (.const (.int 6))))) (.seq (.asg (.tnm 4) (.bin .add (.bin .add (.bin .add (.bin .mul (.bin .mod (.var 3) (.const (.int 2305843009213693921))) (.const (.int 71))) (.bin .mul (.const (.int 761)) (.var 1))) (.bin .mul (.const (.int 41)) (.blt .int (.cons (.cmp .lt (.var 2) (.const (.int 0))) .nil)))) (.const (.int 31)))) (.seq (.ret (.lst (.cons (.blt .max2 (.cons (.const (.int 0)) (.cons (.bin .sub (.var 3) (.bin .pow (.const (.int 10)) (.const (.int 16)))) .nil))) (.cons (.var 4) (.cons (.const (.int 0)) .nil))))) .skip))))⟩
-- _law_roll
def e20 : Ent := ⟨dOf "_law_roll" 29, ["dice", "total"], ["dice", "total", "found", "one", "two"], 2, 5,
  (.seq (.iff (.cmp .gt (.ix (.var 0) (.const (.int 0))) (.const (.int 0))) (.seq (.asg (.tnm 2) (.bin .mod (.ix (.var 0) (.const (.int 0))) (.var 1))) (.seq (.asg (.tsub (.var 0) (.const (.int 0))) (.bin .fdiv (.ix (.var 0) (.const (.int 0))) (.var 1))) (.seq (.ret (.blt .int (.cons (.var 2) .nil))) .skip))) .skip) (.seq (.asg (.tsub (.var 0) (.const (.int 2))) (.bin .add (.ix (.var 0) (.const (.int 2))) (.const (.int 1)))) (.seq (.asg (.tnm 3) (.bin .mod (.bin .add (.ix (.var 0) (.const (.int 1))) (.bin .mul (.const (.int 86028157)) (.ix (.var 0) (.const (.int 2))))) (.const (.int 2305843009213693951)))) (.seq (.asg (.tnm 4) (.bin .add (.bin .mul (.bin .mod (.bin .add (.bin .mul (.var 3) (.var 3)) (.bin .mul (.const (.int 181)) (.ix (.var 0) (.const (.int 2))))) (.const (.int 2305843009213693907))) (.const (.int 15485867))) (.var 3))) (.seq (.ret (.bin .mod (.blt .int (.cons (.bin .fdiv (.var 4) (.const (.int 65579))) .nil)) (.var 1))) .skip)))))⟩
-- _law_pick
def e21 : Ent := ⟨dOf "_law_pick" 30, ["dice", "items"], ["dice", "items"], 2, 2,
  (.seq (.ret (.ix (.var 1) (.call 20 (.cons (.var 0) (.cons (.blt .len (.cons (.var 1) .nil)) .nil))))) .skip)⟩
-- _law_is_int
def e22 : Ent := ⟨dOf "_law_is_int" 31, ["value"], ["value"], 1, 1,
  (.seq (.ret (.band (.blt .isinst (.cons (.var 0) (.cons (.const (.ty .int)) .nil))) (.bnot (.blt .isinst (.cons (.var 0) (.cons (.const (.ty .bool)) .nil)))))) .skip)⟩
-- _law_tb_times
def e23 : Ent := ⟨dOf "_law_tb_times" 32, ["one", "other"], ["one", "other", "first"], 2, 3,
  (.seq (.asg (.tnm 2) (.tup (.cons (.bin .add (.bin .mul (.ix (.var 0) (.const (.int 0))) (.ix (.var 1) (.const (.int 0)))) (.bin .mul (.ix (.var 0) (.const (.int 1))) (.ix (.var 1) (.const (.int 2))))) (.cons (.bin .add (.bin .mul (.ix (.var 0) (.const (.int 0))) (.ix (.var 1) (.const (.int 1)))) (.bin .mul (.ix (.var 0) (.const (.int 1))) (.ix (.var 1) (.const (.int 3))))) .nil)))) (.seq (.ret (.bin .add (.var 2) (.tup (.cons (.bin .add (.bin .mul (.ix (.var 0) (.const (.int 2))) (.ix (.var 1) (.const (.int 0)))) (.bin .mul (.ix (.var 0) (.const (.int 3))) (.ix (.var 1) (.const (.int 2))))) (.cons (.bin .add (.bin .mul (.ix (.var 0) (.const (.int 2))) (.ix (.var 1) (.const (.int 1)))) (.bin .mul (.ix (.var 0) (.const (.int 3))) (.ix (.var 1) (.const (.int 3))))) .nil))))) .skip))⟩
-- _law_tb_drawn
def e24 : Ent := ⟨dOf "_law_tb_drawn" 33, ["dice", "most"], ["dice", "most", "found", "turn", "many"], 2, 5,
  (.seq (.asg (.tnm 2) (.tup (.cons (.const (.int 1)) (.cons (.const (.int 0)) (.cons (.const (.int 0)) (.cons (.const (.int 1)) .nil)))))) (.seq (.forr (.tnm 3) (.rng1 (.call 20 (.cons (.var 0) (.cons (.const (.int 6)) .nil)))) (.seq (.asg (.tnm 4) (.bin .sub (.call 20 (.cons (.var 0) (.cons (.bin .add (.bin .mul (.const (.int 2)) (.var 1)) (.const (.int 1))) .nil))) (.var 1))) (.seq (.asg (.tnm 2) (.call 23 (.cons (.call 21 (.cons (.var 0) (.cons (.lst (.cons (.tup (.cons (.const (.int 1)) (.cons (.var 4) (.cons (.const (.int 0)) (.cons (.const (.int 1)) .nil))))) (.cons (.tup (.cons (.const (.int 1)) (.cons (.const (.int 0)) (.cons (.var 4) (.cons (.const (.int 1)) .nil))))) (.cons (.tup (.cons (.const (.int 0)) (.cons (.neg (.const (.int 1))) (.cons (.const (.int 1)) (.cons (.const (.int 0)) .nil))))) .nil)))) .nil))) (.cons (.var 2) .nil)))) .skip))) (.seq (.ret (.var 2)) .skip)))⟩
-- _law_sh_led
def e25 : Ent := ⟨dOf "_law_sh_led" 34, ["shape", "table"], ["shape", "table", "a", "b", "c", "p", "q", "r", "s", "first"], 2, 10,
  (.seq (.asg (.ttup (.tcons (.tnm 2) (.tcons (.tnm 3) (.tcons (.tnm 4) .tnil)))) (.var 0)) (.seq (.asg (.ttup (.tcons (.tnm 5) (.tcons (.tnm 6) (.tcons (.tnm 7) (.tcons (.tnm 8) .tnil))))) (.var 1)) (.seq (.asg (.tnm 9) (.bin .add (.bin .add (.bin .mul (.bin .mul (.var 2) (.var 5)) (.var 5)) (.bin .mul (.bin .mul (.var 3) (.var 5)) (.var 7))) (.bin .mul (.bin .mul (.var 4) (.var 7)) (.var 7)))) (.seq (.ret (.tup (.cons (.var 9) (.cons (.bin .add (.bin .add (.bin .mul (.bin .mul (.bin .mul (.const (.int 2)) (.var 2)) (.var 5)) (.var 6)) (.bin .mul (.var 3) (.bin .add (.bin .mul (.var 5) (.var 8)) (.bin .mul (.var 6) (.var 7))))) (.bin .mul (.bin .mul (.bin .mul (.const (.int 2)) (.var 4)) (.var 7)) (.var 8))) (.cons (.bin .add (.bin .add (.bin .mul (.bin .mul (.var 2) (.var 6)) (.var 6)) (.bin .mul (.bin .mul (.var 3) (.var 6)) (.var 8))) (.bin .mul (.bin .mul (.var 4) (.var 8)) (.var 8))) .nil))))) .skip))))⟩
-- _law_sh_reduced
def e26 : Ent := ⟨dOf "_law_sh_reduced" 35, ["shape"], ["shape", "found", "a", "b", "c", "many", "step"], 1, 7,
  (.seq (.asg (.tnm 1) (.tup (.cons (.const (.int 1)) (.cons (.const (.int 0)) (.cons (.const (.int 0)) (.cons (.const (.int 1)) .nil)))))) (.seq (.whil (.const (.bl true)) (.seq (.asg (.ttup (.tcons (.tnm 2) (.tcons (.tnm 3) (.tcons (.tnm 4) .tnil)))) (.var 0)) (.seq (.asg (.tnm 5) (.bin .fdiv (.bin .sub (.var 2) (.var 3)) (.bin .mul (.const (.int 2)) (.var 2)))) (.seq (.asg (.tnm 6) (.tup (.cons (.const (.int 1)) (.cons (.var 5) (.cons (.const (.int 0)) (.cons (.const (.int 1)) .nil)))))) (.seq (.iff (.cmp .eq (.var 5) (.const (.int 0))) (.seq (.iff (.bor (.cmp .lt (.var 2) (.var 4)) (.band (.cmp .eq (.var 2) (.var 4)) (.cmp .ge (.var 3) (.const (.int 0))))) (.seq (.ret (.tup (.cons (.var 0) (.cons (.var 1) .nil)))) .skip) .skip) (.seq (.asg (.tnm 6) (.tup (.cons (.const (.int 0)) (.cons (.neg (.const (.int 1))) (.cons (.const (.int 1)) (.cons (.const (.int 0)) .nil)))))) .skip)) .skip) (.seq (.par 0 1 (.cons (.call 25 (.cons (.var 0) (.cons (.var 6) .nil))) (.cons (.call 23 (.cons (.var 1) (.cons (.var 6) .nil))) .nil))) .skip)))))) .skip))⟩
-- _law_sh_drawn
def e27 : Ent := ⟨dOf "_law_sh_drawn" 36, ["dice", "most"], ["dice", "most", "a", "c", "b"], 2, 5,
  (.seq (.asg (.tnm 2) (.bin .add (.const (.int 1)) (.call 20 (.cons (.var 0) (.cons (.var 1) .nil))))) (.seq (.asg (.tnm 3) (.bin .add (.var 2) (.call 20 (.cons (.var 0) (.cons (.bin .mul (.const (.int 2)) (.var 1)) .nil))))) (.seq (.asg (.tnm 4) (.bin .sub (.bin .add (.call 20 (.cons (.var 0) (.cons (.bin .mul (.const (.int 2)) (.var 2)) .nil))) (.const (.int 1))) (.var 2))) (.seq (.ret (.tup (.cons (.var 2) (.cons (.ite (.cmp .eq (.var 3) (.var 2)) (.blt .abs (.cons (.var 4) .nil)) (.var 4)) (.cons (.var 3) .nil))))) .skip))))⟩
-- _law_is_reduced
def e28 : Ent := ⟨dOf "_law_is_reduced" 37, ["shape"], ["shape", "a", "b", "c"], 1, 4,
  (.seq (.asg (.ttup (.tcons (.tnm 1) (.tcons (.tnm 2) (.tcons (.tnm 3) .tnil)))) (.var 0)) (.seq (.ret (.band (.chain .le .le (.blt .abs (.cons (.var 2) .nil)) (.var 1) (.var 3)) (.bor (.cmp .ge (.var 2) (.const (.int 0))) (.band (.cmp .ne (.bin .sub (.const (.int 0)) (.var 2)) (.var 1)) (.cmp .ne (.var 1) (.var 3)))))) .skip))⟩
-- _law_is_table
def e29 : Ent := ⟨dOf "_law_is_table" 38, ["value"], ["value", "one"], 1, 2,
  (.seq (.iff (.bor (.bnot (.blt .isinst (.cons (.var 0) (.cons (.const (.ty .tuple)) .nil)))) (.bor (.cmp .ne (.blt .len (.cons (.var 0) .nil)) (.const (.int 4))) (.cmp .ne (.comp [1] (.tnm 1) (.var 0) (.bnot (.call 22 (.cons (.var 1) .nil))) (.var 1)) (.lst .nil)))) (.seq (.ret (.const (.bl false))) .skip) .skip) (.seq (.ret (.cmp .eq (.bin .sub (.bin .mul (.ix (.var 0) (.const (.int 0))) (.ix (.var 0) (.const (.int 3)))) (.bin .mul (.ix (.var 0) (.const (.int 1))) (.ix (.var 0) (.const (.int 2))))) (.const (.int 1)))) .skip))⟩
-- _law_is_paper
def e30 : Ent := ⟨dOf "_law_is_paper" 39, ["one", "other", "value"], ["one", "other", "value", "first", "last"], 3, 5,
  (.seq (.iff (.bor (.bnot (.blt .isinst (.cons (.var 2) (.cons (.const (.ty .tuple)) .nil)))) (.bor (.cmp .eq (.var 2) (.tup .nil)) (.bnot (.blt .isinst (.cons (.ix (.var 2) (.const (.int 0))) (.cons (.const (.ty .str)) .nil)))))) (.seq (.ret (.const (.bl false))) .skip) .skip) (.seq (.iff (.cmp .eq (.ix (.var 2) (.const (.int 0))) (.const (.str "by"))) (.seq (.ret (.band (.cmp .eq (.blt .len (.cons (.var 2) .nil)) (.const (.int 2))) (.band (.call 29 (.cons (.ix (.var 2) (.const (.int 1))) .nil)) (.cmp .eq (.call 25 (.cons (.var 0) (.cons (.ix (.var 2) (.const (.int 1))) .nil))) (.var 1))))) .skip) .skip) (.seq (.iff (.bor (.cmp .ne (.ix (.var 2) (.const (.int 0))) (.const (.str "apart"))) (.cmp .ne (.blt .len (.cons (.var 2) .nil)) (.const (.int 3)))) (.seq (.ret (.const (.bl false))) .skip) .skip) (.seq (.par 3 4 (.cons (.ix (.call 26 (.cons (.var 0) .nil)) (.const (.int 0))) (.cons (.ix (.call 26 (.cons (.var 1) .nil)) (.const (.int 0))) .nil))) (.seq (.ret (.band (.cmp .ne (.var 3) (.var 4)) (.cmp .eq (.blt .repr (.cons (.slice (.var 2) (.const (.int 1)) .no) .nil)) (.blt .repr (.cons (.tup (.cons (.var 3) (.cons (.var 4) .nil))) .nil))))) .skip)))))⟩
-- _law_near
def e31 : Ent := ⟨dOf "_law_near" 40, ["dice", "one", "other", "told"], ["dice", "one", "other", "told", "table", "first", "last", "found", "a", "b", "c", "d"], 4, 12,
  (.seq (.asg (.tnm 4) (.call 24 (.cons (.var 0) (.cons (.const (.int 3)) .nil)))) (.seq (.par 5 6 (.cons (.ix (.call 26 (.cons (.var 1) .nil)) (.const (.int 0))) (.cons (.ix (.call 26 (.cons (.var 2) .nil)) (.const (.int 0))) .nil))) (.seq (.asg (.tnm 7) (.lst (.cons (.var 3) (.cons (.blt .list (.cons (.var 3) .nil)) (.cons (.bin .add (.var 3) (.tup (.cons (.const (.int 0)) .nil))) (.cons (.slice (.var 3) .no (.const (.int 1))) (.cons (.tup (.cons (.const (.str "by")) (.cons (.var 4) .nil))) (.cons (.tup (.cons (.const (.str "by")) (.cons (.blt .list (.cons (.var 4) .nil)) .nil))) (.cons (.tup (.cons (.const (.str "by")) (.cons (.slice (.var 4) .no (.const (.int 3))) .nil))) (.cons (.tup (.cons (.const (.str "by")) .nil)) .nil)))))))))) (.seq (.asg (.tnm 7) (.bin .add (.var 7) (.lst (.cons (.tup (.cons (.const (.str "apart")) (.cons (.var 5) (.cons (.var 6) .nil)))) (.cons (.tup (.cons (.const (.str "apart")) (.cons (.var 6) (.cons (.var 5) .nil)))) (.cons (.tup (.cons (.const (.str "apart")) (.cons (.var 1) (.cons (.var 2) .nil)))) (.cons (.tup (.cons (.const (.str "apart")) .nil)) (.cons (.const .non) (.cons (.tup .nil) (.cons (.const (.str "by")) .nil)))))))))) (.seq (.asg (.tnm 7) (.bin .add (.var 7) (.lst (.cons (.tup (.cons (.const (.str "by")) (.cons (.tup (.cons (.const (.int 1)) (.cons (.const (.int 0)) (.cons (.const (.int 0)) (.cons (.const (.int 1)) .nil))))) .nil))) (.cons (.tup (.cons (.const (.str "by")) (.cons (.tup (.cons (.const (.bl true)) (.cons (.const (.int 0)) (.cons (.const (.int 0)) (.cons (.const (.int 1)) .nil))))) .nil))) (.cons (.tup (.cons (.const (.str "by")) (.cons (.tup (.cons (.const (.int 1)) (.cons (.const (.int 0)) (.cons (.const (.int 0)) (.cons (.neg (.const (.int 1))) .nil))))) .nil))) (.cons (.tup (.cons (.const (.str "apart")) (.cons (.blt .list (.cons (.var 5) .nil)) (.cons (.var 6) .nil)))) .nil))))))) (.seq (.iff (.cmp .eq (.ix (.var 3) (.const (.int 0))) (.const (.str "by"))) (.seq (.asg (.ttup (.tcons (.tnm 8) (.tcons (.tnm 9) (.tcons (.tnm 10) (.tcons (.tnm 11) .tnil))))) (.ix (.var 3) (.const (.int 1)))) (.seq (.asg (.tnm 7) (.bin .add (.var 7) (.lst (.cons (.tup (.cons (.const (.str "by")) (.cons (.tup (.cons (.bin .sub (.const (.int 0)) (.var 8)) (.cons (.bin .sub (.const (.int 0)) (.var 9)) (.cons (.bin .sub (.const (.int 0)) (.var 10)) (.cons (.bin .sub (.const (.int 0)) (.var 11)) .nil))))) .nil))) (.cons (.tup (.cons (.const (.str "by")) (.cons (.tup (.cons (.var 11) (.cons (.bin .sub (.const (.int 0)) (.var 9)) (.cons (.bin .sub (.const (.int 0)) (.var 10)) (.cons (.var 8) .nil))))) .nil))) (.cons (.tup (.cons (.const (.str "by")) (.cons (.tup (.cons (.var 8) (.cons (.var 9) (.cons (.var 10) (.cons (.bin .add (.var 11) (.const (.int 1))) .nil))))) .nil))) .nil)))))) .skip)) .skip) (.seq (.ret (.var 7)) .skip)))))))⟩
-- _law_right
def e32 : Ent := ⟨dOf "_law_right" 41, ["dice"], ["dice", "base", "one", "other", "due", "table", "is_so", "told", "value"], 1, 9,
  (.seq (.asg (.tnm 1) (.call 27 (.cons (.var 0) (.cons (.const (.int 9)) .nil)))) (.seq (.par 2 3 (.cons (.call 25 (.cons (.var 1) (.cons (.call 24 (.cons (.var 0) (.cons (.const (.int 2)) .nil))) .nil))) (.cons (.call 25 (.cons (.var 1) (.cons (.call 24 (.cons (.var 0) (.cons (.const (.int 2)) .nil))) .nil))) .nil))) (.seq (.asg (.tnm 3) (.call 21 (.cons (.var 0) (.cons (.lst (.cons (.var 3) (.cons (.var 3) (.cons (.call 25 (.cons (.call 27 (.cons (.var 0) (.cons (.const (.int 9)) .nil))) (.cons (.call 24 (.cons (.var 0) (.cons (.const (.int 2)) .nil))) .nil))) (.cons (.tup (.cons (.ix (.var 1) (.const (.int 0))) (.cons (.bin .sub (.const (.int 0)) (.ix (.var 1) (.const (.int 1)))) (.cons (.ix (.var 1) (.const (.int 2))) .nil)))) .nil))))) .nil)))) (.seq (.asg (.tnm 4) (.ix (.call 26 (.cons (.var 2) .nil)) (.const (.int 0)))) (.seq (.iff (.bor (.cmp .isnot (.call 10 (.cons (.var 2) .nil)) (.const (.bl true))) (.cmp .ne (.call 11 (.cons (.var 2) .nil)) (.bin .sub (.bin .mul (.bin .mul (.const (.int 4)) (.ix (.var 1) (.const (.int 0)))) (.ix (.var 1) (.const (.int 2)))) (.bin .mul (.ix (.var 1) (.const (.int 1))) (.ix (.var 1) (.const (.int 1))))))) (.seq (.ret (.const (.bl false))) .skip) .skip) (.seq (.iff (.bor (.cmp .ne (.call 13 (.cons (.var 2) .nil)) (.var 4)) (.bor (.cmp .ne (.call 12 (.cons (.var 2) .nil)) (.call 28 (.cons (.var 2) .nil))) (.bnot (.call 12 (.cons (.var 4) .nil))))) (.seq (.ret (.const (.bl false))) .skip) .skip) (.seq (.asg (.tnm 5) (.call 14 (.cons (.var 2) .nil))) (.seq (.iff (.bor (.bnot (.call 29 (.cons (.var 5) .nil))) (.cmp .ne (.call 25 (.cons (.var 2) (.cons (.var 5) .nil))) (.var 4))) (.seq (.ret (.const (.bl false))) .skip) .skip) (.seq (.asg (.tnm 6) (.cmp .eq (.var 4) (.ix (.call 26 (.cons (.var 3) .nil)) (.const (.int 0))))) (.seq (.asg (.tnm 7) (.call 16 (.cons (.var 2) (.cons (.var 3) .nil)))) (.seq (.iff (.bor (.cmp .ne (.call 15 (.cons (.var 2) (.cons (.var 3) .nil))) (.var 6)) (.bor (.cmp .ne (.cmp .eq (.ix (.var 7) (.const (.int 0))) (.const (.str "by"))) (.var 6)) (.bnot (.call 30 (.cons (.var 2) (.cons (.var 3) (.cons (.var 7) .nil))))))) (.seq (.ret (.const (.bl false))) .skip) .skip) (.seq (.forr (.tnm 8) (.call 31 (.cons (.var 0) (.cons (.var 2) (.cons (.var 3) (.cons (.var 7) .nil))))) (.seq (.iff (.cmp .ne (.blt .repr (.cons (.call 17 (.cons (.var 2) (.cons (.var 3) (.cons (.var 8) .nil)))) .nil)) (.blt .repr (.cons (.call 30 (.cons (.var 2) (.cons (.var 3) (.cons (.var 8) .nil)))) .nil))) (.seq (.ret (.const (.bl false))) .skip) .skip) .skip)) (.seq (.ret (.const (.bl true))) .skip)))))))))))))⟩
-- law
def e33 : Ent := ⟨dOf "law" 42, ["script"], ["script", "spot", "dice", "turn"], 1, 4,
  (.seq (.forr (.tnm 1) (.rng1 (.blt .max2 (.cons (.const (.int 1)) (.cons (.blt .min2 (.cons (.const (.int 6)) (.cons (.blt .len (.cons (.var 0) .nil)) .nil))) .nil)))) (.seq (.asg (.tnm 2) (.call 19 (.cons (.var 0) (.cons (.var 1) .nil)))) (.seq (.forr (.tnm 3) (.rng1 (.const (.int 3))) (.seq (.iff (.bnot (.call 32 (.cons (.var 2) .nil))) (.seq (.ret (.const (.bl false))) .skip) .skip) .skip)) .skip))) (.seq (.ret (.band (.cmp .eq (.call 13 (.cons (.tup (.cons (.const (.int 31)) (.cons (.const (.int 50)) (.cons (.const (.int 21)) .nil)))) .nil)) (.tup (.cons (.const (.int 2)) (.cons (.const (.int 0)) (.cons (.const (.int 13)) .nil))))) (.band (.cmp .eq (.call 13 (.cons (.tup (.cons (.const (.int 2)) (.cons (.neg (.const (.int 2))) (.cons (.const (.int 3)) .nil)))) .nil)) (.tup (.cons (.const (.int 2)) (.cons (.const (.int 2)) (.cons (.const (.int 3)) .nil))))) (.cmp .eq (.call 13 (.cons (.tup (.cons (.const (.int 3)) (.cons (.neg (.const (.int 1))) (.cons (.const (.int 3)) .nil)))) .nil)) (.tup (.cons (.const (.int 3)) (.cons (.const (.int 1)) (.cons (.const (.int 3)) .nil)))))))) .skip))⟩
def es : List Ent := ([e0, e1, e2, e3, e4, e5, e6, e7, e8, e9, e10, e11, e12, e13, e14, e15, e16, e17, e18, e19] : List Ent) ++
  ([e20, e21, e22, e23, e24, e25, e26, e27, e28, e29, e30, e31, e32, e33] : List Ent)
def gs : List (Str × D) := ([("is_integer", .fn 0), ("is_within", .fn 1), ("is_shape_in", .fn 2), ("require_shape", .fn 3), ("lack_in", .fn 4), ("is_reduced_in", .fn 5), ("led_in", .fn 6), ("times_in", .fn 7), ("reduced_in", .fn 8), ("back_of", .fn 9), ("is_shape", .fn 10), ("lack", .fn 11), ("is_reduced", .fn 12), ("reduced", .fn 13), ("reducing_table", .fn 14), ("are_led", .fn 15), ("led_paper", .fn 16), ("is_led_paper", .fn 17), ("is_table", .fn 18), ("_law_dice", .fn 19)] : List (Str × D)) ++
  ([("_law_roll", .fn 20), ("_law_pick", .fn 21), ("_law_is_int", .fn 22), ("_law_tb_times", .fn 23), ("_law_tb_drawn", .fn 24), ("_law_sh_led", .fn 25), ("_law_sh_reduced", .fn 26), ("_law_sh_drawn", .fn 27), ("_law_is_reduced", .fn 28), ("_law_is_table", .fn 29), ("_law_is_paper", .fn 30), ("_law_near", .fn 31), ("_law_right", .fn 32), ("law", .fn 33), ("MOST_ENTRY", (.int 1000000)), ("UNIT", (.tup [(.int 1), (.int 0), (.int 0), (.int 1)])), ("BY", (.str "by")), ("APART", (.str "apart"))] : List (Str × D))
def bs : List Str := (["abs", "all", "bool", "int", "isinstance", "len", "list", "max", "min", "range", "repr", "str", "tuple"] : List Str)
theorem good1 : es.all Ent.good = true := by kernel_rfl
theorem src1 : es.map (fun e => e.body) = es.map (Ent.src (gloOf gs bs)) := by kernel_rfl
theorem good : ∀ e ∈ es, e.good = true := fun e h => List.all_eq_true.mp good1 e h
theorem src : ∀ e ∈ es, e.body = e.src (gloOf gs bs) := List.map_inj_left.mp src1
end Pf

set_option Elab.async false
set_option linter.all false
set_option maxRecDepth 100000
set_option maxHeartbeats 1000000
namespace Pf
open PySem L2 Ev
abbrev T := tabT es
structure Sh where
  a : Int
  b : Int
  c : Int
structure Tb where
  p : Int
  q : Int
  r : Int
  s : Int
def led (x : Sh) (t : Tb) : Sh := ⟨x.a * t.p * t.p + x.b * t.p * t.r + x.c * t.r * t.r, 2 * x.a * t.p * t.q + x.b * (t.p * t.s + t.q * t.r) + 2 * x.c * t.r * t.s, x.a * t.q * t.q + x.b * t.q * t.s + x.c * t.s * t.s⟩
def tms (t u : Tb) : Tb := ⟨t.p * u.p + t.q * u.r, t.p * u.q + t.q * u.s, t.r * u.p + t.s * u.r, t.r * u.q + t.s * u.s⟩
def det (t : Tb) : Int := t.p * t.s - t.q * t.r
def disc (x : Sh) : Int := 4 * x.a * x.c - x.b * x.b
def backT (t : Tb) : Tb := ⟨t.s, 0 - t.q, 0 - t.r, t.p⟩
def dS (x : Sh) : D := .tup [.int x.a, .int x.b, .int x.c]
def dT (x : Tb) : D := .tup [.int x.p, .int x.q, .int x.r, .int x.s]
structure Sm (x : Sh) : Prop where
  a : b64 x.a = true
  b : b64 x.b = true
  c : b64 x.c = true
structure Tm (x : Tb) : Prop where
  p : b64 x.p = true
  q : b64 x.q = true
  r : b64 x.r = true
  s : b64 x.s = true
theorem bb2 : b64 2 = true := by decide
theorem bb4 : b64 4 = true := by decide
variable (n : Nat) (m : Mem)
/-! integers -/
theorem int_run (i : Int) : run T (n + 1) 0 [.int i] m = .ok (.bl true) m := by
  rw [run_at (f := e0.fn) rfl rfl]
  simp only [tdS_same, tdS_put, ix30, ix31, ix32, ix40, ix41, ix42, ix43, ix20, ix21, Ent.fn, startR, denS, den, asV, asS, asT, consM, lstM, bin2, negM, testM, sel_t, sel_f, selAnd, selOr, selNot, truth_bl, iteM, bandM, borM, Ev.notM, chainM, callM, bltM, partM, partD, sliceM, rng1M, rng2M, tnilM, tconsM, tnmM, noX, Out.bind, Out.st, opt, okk, getR, List.map, List.replicate, List.append, List.length, List.set, Nat.sub, HAppend.hAppend, Append.append, addF, subF, ltM, leM, gtM, geM, eqM, neM, fin, bltF, one, two, onSeq, onInt, onLst, onSome, seqOf, len0, len1, len2, len3, len4, len5, intF, isaF, tyOf, isaT, E.isNo, Bool.not_true, Bool.not_false, e0, finM_same]
theorem int_bl (b : Bool) : run T (n + 1) 0 [.bl b] m = .ok (.bl false) m := by
  rw [run_at (f := e0.fn) rfl rfl]
  simp only [tdS_same, tdS_put, ix30, ix31, ix32, ix40, ix41, ix42, ix43, ix20, ix21, Ent.fn, startR, denS, den, asV, asS, asT, consM, lstM, bin2, negM, testM, sel_t, sel_f, selAnd, selOr, selNot, truth_bl, iteM, bandM, borM, Ev.notM, chainM, callM, bltM, partM, partD, sliceM, rng1M, rng2M, tnilM, tconsM, tnmM, noX, Out.bind, Out.st, opt, okk, getR, List.map, List.replicate, List.append, List.length, List.set, Nat.sub, HAppend.hAppend, Append.append, addF, subF, ltM, leM, gtM, geM, eqM, neM, fin, bltF, one, two, onSeq, onInt, onLst, onSome, seqOf, len0, len1, len2, len3, len4, len5, intF, isaF, tyOf, isaT, E.isNo, Bool.not_true, Bool.not_false, e0, finM_same]
theorem lint_run (i : Int) : run T (n + 1) 22 [.int i] m = .ok (.bl true) m := by
  rw [run_at (f := e22.fn) rfl rfl]
  simp only [tdS_same, tdS_put, ix30, ix31, ix32, ix40, ix41, ix42, ix43, ix20, ix21, Ent.fn, startR, denS, den, asV, asS, asT, consM, lstM, bin2, negM, testM, sel_t, sel_f, selAnd, selOr, selNot, truth_bl, iteM, bandM, borM, Ev.notM, chainM, callM, bltM, partM, partD, sliceM, rng1M, rng2M, tnilM, tconsM, tnmM, noX, Out.bind, Out.st, opt, okk, getR, List.map, List.replicate, List.append, List.length, List.set, Nat.sub, HAppend.hAppend, Append.append, addF, subF, ltM, leM, gtM, geM, eqM, neM, fin, bltF, one, two, onSeq, onInt, onLst, onSome, seqOf, len0, len1, len2, len3, len4, len5, intF, isaF, tyOf, isaT, E.isNo, Bool.not_true, Bool.not_false, e22, finM_same]
theorem lint_bl (b : Bool) : run T (n + 1) 22 [.bl b] m = .ok (.bl false) m := by
  rw [run_at (f := e22.fn) rfl rfl]
  simp only [tdS_same, tdS_put, ix30, ix31, ix32, ix40, ix41, ix42, ix43, ix20, ix21, Ent.fn, startR, denS, den, asV, asS, asT, consM, lstM, bin2, negM, testM, sel_t, sel_f, selAnd, selOr, selNot, truth_bl, iteM, bandM, borM, Ev.notM, chainM, callM, bltM, partM, partD, sliceM, rng1M, rng2M, tnilM, tconsM, tnmM, noX, Out.bind, Out.st, opt, okk, getR, List.map, List.replicate, List.append, List.length, List.set, Nat.sub, HAppend.hAppend, Append.append, addF, subF, ltM, leM, gtM, geM, eqM, neM, fin, bltF, one, two, onSeq, onInt, onLst, onSome, seqOf, len0, len1, len2, len3, len4, len5, intF, isaF, tyOf, isaT, E.isNo, Bool.not_true, Bool.not_false, e22, finM_same]
theorem within_run (i lo hi : Int) : run T (n + 2) 1 [.int i, .int lo, .int hi] m = .ok (.bl (decide (lo ≤ i) && decide (i ≤ hi))) m := by
  rw [run_at (f := e1.fn) rfl rfl]
  simp only [tdS_same, tdS_put, ix30, ix31, ix32, ix40, ix41, ix42, ix43, ix20, ix21, Ent.fn, startR, denS, den, asV, asS, asT, consM, lstM, bin2, negM, testM, sel_t, sel_f, selAnd, selOr, selNot, truth_bl, iteM, bandM, borM, Ev.notM, chainM, callM, bltM, partM, partD, sliceM, rng1M, rng2M, tnilM, tconsM, tnmM, noX, Out.bind, Out.st, opt, okk, getR, List.map, List.replicate, List.append, List.length, List.set, Nat.sub, HAppend.hAppend, Append.append, addF, subF, ltM, leM, gtM, geM, eqM, neM, fin, bltF, one, two, onSeq, onInt, onLst, onSome, seqOf, len0, len1, len2, len3, len4, len5, intF, isaF, tyOf, isaT, E.isNo, Bool.not_true, Bool.not_false, e1, int_run, finM_same]
/-! shapes, tables -/
theorem led_run0 (a b c p q r s : Int) (hb : b64 b = true) (hp : b64 p = true) (hq : b64 q = true) (hr : b64 r = true) (hs : b64 s = true) : run T (n + 1) 6 [.tup [.int a, .int b, .int c], .tup [.int p, .int q, .int r, .int s]] m = .ok (dS (led ⟨a, b, c⟩ ⟨p, q, r, s⟩)) m := by
  rw [run_at (f := e6.fn) rfl rfl]
  simp only [tdS_same, tdS_put, ix30, ix31, ix32, ix40, ix41, ix42, ix43, ix20, ix21, Ent.fn, startR, denS, den, asV, asS, asT, consM, lstM, bin2, negM, testM, sel_t, sel_f, selAnd, selOr, selNot, truth_bl, iteM, bandM, borM, Ev.notM, chainM, callM, bltM, partM, partD, sliceM, rng1M, rng2M, tnilM, tconsM, tnmM, noX, Out.bind, Out.st, opt, okk, getR, List.map, List.replicate, List.append, List.length, List.set, Nat.sub, HAppend.hAppend, Append.append, addF, subF, ltM, leM, gtM, geM, eqM, neM, fin, bltF, one, two, onSeq, onInt, onLst, onSome, seqOf, len0, len1, len2, len3, len4, len5, intF, isaF, tyOf, isaT, E.isNo, Bool.not_true, Bool.not_false, e6, mulF_r, mulF_l, hb, hp, hq, hr, hs, bb2, finM_same, dS, led]
theorem led_run (x : Sh) (t : Tb) (hx : b64 x.b = true) (ht : Tm t) : run T (n + 1) 6 [dS x, dT t] m = .ok (dS (led x t)) m := led_run0 n m _ _ _ _ _ _ _ hx ht.p ht.q ht.r ht.s
theorem lled_run0 (a b c p q r s : Int) (hb : b64 b = true) (hp : b64 p = true) (hq : b64 q = true) (hr : b64 r = true) (hs : b64 s = true) : run T (n + 1) 25 [.tup [.int a, .int b, .int c], .tup [.int p, .int q, .int r, .int s]] m = .ok (dS (led ⟨a, b, c⟩ ⟨p, q, r, s⟩)) m := by
  rw [run_at (f := e25.fn) rfl rfl]
  simp only [tdS_same, tdS_put, ix30, ix31, ix32, ix40, ix41, ix42, ix43, ix20, ix21, Ent.fn, startR, denS, den, asV, asS, asT, consM, lstM, bin2, negM, testM, sel_t, sel_f, selAnd, selOr, selNot, truth_bl, iteM, bandM, borM, Ev.notM, chainM, callM, bltM, partM, partD, sliceM, rng1M, rng2M, tnilM, tconsM, tnmM, noX, Out.bind, Out.st, opt, okk, getR, List.map, List.replicate, List.append, List.length, List.set, Nat.sub, HAppend.hAppend, Append.append, addF, subF, ltM, leM, gtM, geM, eqM, neM, fin, bltF, one, two, onSeq, onInt, onLst, onSome, seqOf, len0, len1, len2, len3, len4, len5, intF, isaF, tyOf, isaT, E.isNo, Bool.not_true, Bool.not_false, e25, mulF_r, mulF_l, hb, hp, hq, hr, hs, bb2, finM_same, dS, led]
theorem lled_run (x : Sh) (t : Tb) (hx : b64 x.b = true) (ht : Tm t) : run T (n + 1) 25 [dS x, dT t] m = .ok (dS (led x t)) m := lled_run0 n m _ _ _ _ _ _ _ hx ht.p ht.q ht.r ht.s
theorem tms_run0 (a b c d p q r s : Int) (hp : b64 p = true) (hq : b64 q = true) (hr : b64 r = true) (hs : b64 s = true) : run T (n + 1) 7 [.tup [.int a, .int b, .int c, .int d], .tup [.int p, .int q, .int r, .int s]] m = .ok (dT (tms ⟨a, b, c, d⟩ ⟨p, q, r, s⟩)) m := by
  rw [run_at (f := e7.fn) rfl rfl]
  simp only [tdS_same, tdS_put, ix30, ix31, ix32, ix40, ix41, ix42, ix43, ix20, ix21, Ent.fn, startR, denS, den, asV, asS, asT, consM, lstM, bin2, negM, testM, sel_t, sel_f, selAnd, selOr, selNot, truth_bl, iteM, bandM, borM, Ev.notM, chainM, callM, bltM, partM, partD, sliceM, rng1M, rng2M, tnilM, tconsM, tnmM, noX, Out.bind, Out.st, opt, okk, getR, List.map, List.replicate, List.append, List.length, List.set, Nat.sub, HAppend.hAppend, Append.append, addF, subF, ltM, leM, gtM, geM, eqM, neM, fin, bltF, one, two, onSeq, onInt, onLst, onSome, seqOf, len0, len1, len2, len3, len4, len5, intF, isaF, tyOf, isaT, E.isNo, Bool.not_true, Bool.not_false, e7, mulF_r, mulF_l, hp, hq, hr, hs, bb2, finM_same, dT, tms]
theorem tms_run (t u : Tb) (ht : Tm u) : run T (n + 1) 7 [dT t, dT u] m = .ok (dT (tms t u)) m := tms_run0 n m _ _ _ _ _ _ _ _ ht.p ht.q ht.r ht.s
theorem ltms_run0 (a b c d p q r s : Int) (hp : b64 p = true) (hq : b64 q = true) (hr : b64 r = true) (hs : b64 s = true) : run T (n + 1) 23 [.tup [.int a, .int b, .int c, .int d], .tup [.int p, .int q, .int r, .int s]] m = .ok (dT (tms ⟨a, b, c, d⟩ ⟨p, q, r, s⟩)) m := by
  rw [run_at (f := e23.fn) rfl rfl]
  simp only [tdS_same, tdS_put, ix30, ix31, ix32, ix40, ix41, ix42, ix43, ix20, ix21, Ent.fn, startR, denS, den, asV, asS, asT, consM, lstM, bin2, negM, testM, sel_t, sel_f, selAnd, selOr, selNot, truth_bl, iteM, bandM, borM, Ev.notM, chainM, callM, bltM, partM, partD, sliceM, rng1M, rng2M, tnilM, tconsM, tnmM, noX, Out.bind, Out.st, opt, okk, getR, List.map, List.replicate, List.append, List.length, List.set, Nat.sub, HAppend.hAppend, Append.append, addF, subF, ltM, leM, gtM, geM, eqM, neM, fin, bltF, one, two, onSeq, onInt, onLst, onSome, seqOf, len0, len1, len2, len3, len4, len5, intF, isaF, tyOf, isaT, E.isNo, Bool.not_true, Bool.not_false, e23, mulF_r, mulF_l, hp, hq, hr, hs, bb2, finM_same, dT, tms]
  rw [catF rfl]
  simp only [tdS_same, tdS_put, ix30, ix31, ix32, ix40, ix41, ix42, ix43, ix20, ix21, Ent.fn, startR, denS, den, asV, asS, asT, consM, lstM, bin2, negM, testM, sel_t, sel_f, selAnd, selOr, selNot, truth_bl, iteM, bandM, borM, Ev.notM, chainM, callM, bltM, partM, partD, sliceM, rng1M, rng2M, tnilM, tconsM, tnmM, noX, Out.bind, Out.st, opt, okk, getR, List.map, List.replicate, List.append, List.length, List.set, Nat.sub, HAppend.hAppend, Append.append, addF, subF, ltM, leM, gtM, geM, eqM, neM, fin, bltF, one, two, onSeq, onInt, onLst, onSome, seqOf, len0, len1, len2, len3, len4, len5, intF, isaF, tyOf, isaT, E.isNo, Bool.not_true, Bool.not_false, finM_same]
theorem ltms_run (t u : Tb) (ht : Tm u) : run T (n + 1) 23 [dT t, dT u] m = .ok (dT (tms t u)) m := ltms_run0 n m _ _ _ _ _ _ _ _ ht.p ht.q ht.r ht.s
theorem lack_run0 (a b c : Int) (hb : b64 b = true) (hc : b64 c = true) : run T (n + 1) 4 [.tup [.int a, .int b, .int c]] m = .ok (.int (disc ⟨a, b, c⟩)) m := by
  rw [run_at (f := e4.fn) rfl rfl]
  simp only [tdS_same, tdS_put, ix30, ix31, ix32, ix40, ix41, ix42, ix43, ix20, ix21, Ent.fn, startR, denS, den, asV, asS, asT, consM, lstM, bin2, negM, testM, sel_t, sel_f, selAnd, selOr, selNot, truth_bl, iteM, bandM, borM, Ev.notM, chainM, callM, bltM, partM, partD, sliceM, rng1M, rng2M, tnilM, tconsM, tnmM, noX, Out.bind, Out.st, opt, okk, getR, List.map, List.replicate, List.append, List.length, List.set, Nat.sub, HAppend.hAppend, Append.append, addF, subF, ltM, leM, gtM, geM, eqM, neM, fin, bltF, one, two, onSeq, onInt, onLst, onSome, seqOf, len0, len1, len2, len3, len4, len5, intF, isaF, tyOf, isaT, E.isNo, Bool.not_true, Bool.not_false, e4, mulF_r, mulF_l, hb, hc, bb4, finM_same, disc]
theorem lack_run (x : Sh) (hb : b64 x.b = true) (hc : b64 x.c = true) : run T (n + 1) 4 [dS x] m = .ok (.int (disc x)) m := by
  rw [run_at (f := e4.fn) rfl rfl]
  simp only [tdS_same, tdS_put, ix30, ix31, ix32, ix40, ix41, ix42, ix43, ix20, ix21, Ent.fn, startR, denS, den, asV, asS, asT, consM, lstM, bin2, negM, testM, sel_t, sel_f, selAnd, selOr, selNot, truth_bl, iteM, bandM, borM, Ev.notM, chainM, callM, bltM, partM, partD, sliceM, rng1M, rng2M, tnilM, tconsM, tnmM, noX, Out.bind, Out.st, opt, okk, getR, List.map, List.replicate, List.append, List.length, List.set, Nat.sub, HAppend.hAppend, Append.append, addF, subF, ltM, leM, gtM, geM, eqM, neM, fin, bltF, one, two, onSeq, onInt, onLst, onSome, seqOf, len0, len1, len2, len3, len4, len5, intF, isaF, tyOf, isaT, E.isNo, Bool.not_true, Bool.not_false, e4, mulF_r, mulF_l, hb, hc, bb4, finM_same, dS, disc]
def absI (i : Int) : Int := if i < 0 then -i else i
def isRed (x : Sh) : Bool := match decide (x.a < absI x.b) || decide (x.c < x.a) with
  | true => false
  | false => decide (0 ≤ x.b) || (!decide (0 - x.b = x.a) && !decide (x.a = x.c))
theorem isred_run (x : Sh) : run T (n + 1) 5 [dS x] m = .ok (.bl (isRed x)) m := by
  rw [run_at (f := e5.fn) rfl rfl]
  simp only [tdS_same, tdS_put, ix30, ix31, ix32, ix40, ix41, ix42, ix43, ix20, ix21, Ent.fn, startR, denS, den, asV, asS, asT, consM, lstM, bin2, negM, testM, sel_t, sel_f, selAnd, selOr, selNot, truth_bl, iteM, bandM, borM, Ev.notM, chainM, callM, bltM, partM, partD, sliceM, rng1M, rng2M, tnilM, tconsM, tnmM, noX, Out.bind, Out.st, opt, okk, getR, List.map, List.replicate, List.append, List.length, List.set, Nat.sub, HAppend.hAppend, Append.append, addF, subF, ltM, leM, gtM, geM, eqM, neM, fin, bltF, one, two, onSeq, onInt, onLst, onSome, seqOf, len0, len1, len2, len3, len4, len5, intF, isaF, tyOf, isaT, E.isNo, Bool.not_true, Bool.not_false, e5, finM_same, dS]
  unfold isRed absI
  cases decide (x.a < if x.b < 0 then -x.b else x.b) || decide (x.c < x.a) <;> simp only [tdS_same, tdS_put, ix30, ix31, ix32, ix40, ix41, ix42, ix43, ix20, ix21, Ent.fn, startR, denS, den, asV, asS, asT, consM, lstM, bin2, negM, testM, sel_t, sel_f, selAnd, selOr, selNot, truth_bl, iteM, bandM, borM, Ev.notM, chainM, callM, bltM, partM, partD, sliceM, rng1M, rng2M, tnilM, tconsM, tnmM, noX, Out.bind, Out.st, opt, okk, getR, List.map, List.replicate, List.append, List.length, List.set, Nat.sub, HAppend.hAppend, Append.append, addF, subF, ltM, leM, gtM, geM, eqM, neM, fin, bltF, one, two, onSeq, onInt, onLst, onSome, seqOf, len0, len1, len2, len3, len4, len5, intF, isaF, tyOf, isaT, E.isNo, Bool.not_true, Bool.not_false, finM_same]
theorem lisred_run (x : Sh) : run T (n + 1) 28 [dS x] m = .ok (.bl (isRed x)) m := by
  rw [run_at (f := e28.fn) rfl rfl]
  simp only [tdS_same, tdS_put, ix30, ix31, ix32, ix40, ix41, ix42, ix43, ix20, ix21, Ent.fn, startR, denS, den, asV, asS, asT, consM, lstM, bin2, negM, testM, sel_t, sel_f, selAnd, selOr, selNot, truth_bl, iteM, bandM, borM, Ev.notM, chainM, callM, bltM, partM, partD, sliceM, rng1M, rng2M, tnilM, tconsM, tnmM, noX, Out.bind, Out.st, opt, okk, getR, List.map, List.replicate, List.append, List.length, List.set, Nat.sub, HAppend.hAppend, Append.append, addF, subF, ltM, leM, gtM, geM, eqM, neM, fin, bltF, one, two, onSeq, onInt, onLst, onSome, seqOf, len0, len1, len2, len3, len4, len5, intF, isaF, tyOf, isaT, E.isNo, Bool.not_true, Bool.not_false, e28, finM_same, dS]
  unfold isRed absI
  congr 2
  generalize (if x.b < 0 then -x.b else x.b) = z
  have e1 : decide (z ≤ x.a) = !decide (x.a < z) := by rw [← decide_not]; exact decide_eq_decide.mpr (by omega)
  have e2 : decide (x.a ≤ x.c) = !decide (x.c < x.a) := by rw [← decide_not]; exact decide_eq_decide.mpr (by omega)
  rw [e1, e2]
  cases decide (x.a < z) <;> cases decide (x.c < x.a) <;> simp
theorem back_run (t : Tb) : run T (n + 1) 9 [dT t] m = .ok (dT (backT t)) m := by
  rw [run_at (f := e9.fn) rfl rfl]
  simp only [tdS_same, tdS_put, ix30, ix31, ix32, ix40, ix41, ix42, ix43, ix20, ix21, Ent.fn, startR, denS, den, asV, asS, asT, consM, lstM, bin2, negM, testM, sel_t, sel_f, selAnd, selOr, selNot, truth_bl, iteM, bandM, borM, Ev.notM, chainM, callM, bltM, partM, partD, sliceM, rng1M, rng2M, tnilM, tconsM, tnmM, noX, Out.bind, Out.st, opt, okk, getR, List.map, List.replicate, List.append, List.length, List.set, Nat.sub, HAppend.hAppend, Append.append, addF, subF, ltM, leM, gtM, geM, eqM, neM, fin, bltF, one, two, onSeq, onInt, onLst, onSome, seqOf, len0, len1, len2, len3, len4, len5, intF, isaF, tyOf, isaT, E.isNo, Bool.not_true, Bool.not_false, e9, finM_same, dT, backT]
/-! the test of a shape -/
def inE (i : Int) : Bool := decide (-1000000 ≤ i) && decide (i ≤ 1000000)
def okS (x : Sh) : Bool := match inE x.a && (inE x.b && inE x.c) with
  | true => decide (0 < x.a) && decide (0 < disc x)
  | false => false
theorem inE_b {i : Int} (h : inE i = true) : b64 i = true := by
  simp only [inE, b64, Bool.and_eq_true, decide_eq_true_eq] at h ⊢
  omega
variable {m}
theorem inE_def (i : Int) : (decide (-1000000 ≤ i) && decide (i ≤ 1000000)) = inE i := rfl
theorem isshape_run (w : WF m) (x : Sh) : run T (n + 3) 2 [dS x] m = .ok (.bl (okS x)) m := by
  rw [run_at (f := e2.fn) rfl rfl]
  simp only [tdS_same, tdS_put, ix30, ix31, ix32, ix40, ix41, ix42, ix43, ix20, ix21, Ent.fn, startR, denS, den, asV, asS, asT, consM, lstM, bin2, negM, testM, sel_t, sel_f, selAnd, selOr, selNot, truth_bl, iteM, bandM, borM, Ev.notM, chainM, callM, bltM, partM, partD, sliceM, rng1M, rng2M, tnilM, tconsM, tnmM, noX, Out.bind, Out.st, opt, okk, getR, List.map, List.replicate, List.append, List.length, List.set, Nat.sub, HAppend.hAppend, Append.append, addF, subF, ltM, leM, gtM, geM, eqM, neM, fin, bltF, one, two, onSeq, onInt, onLst, onSome, seqOf, len0, len1, len2, len3, len4, len5, intF, isaF, tyOf, isaT, E.isNo, Bool.not_true, Bool.not_false, e2, finM_same, dS, compM, srcOf, onSrc, compL, wipeR, within_run, negM, decide_true, inE_def]
  rw [newL_ok rfl]
  simp only [tdS_same, tdS_put, ix30, ix31, ix32, ix40, ix41, ix42, ix43, ix20, ix21, Ent.fn, startR, denS, den, asV, asS, asT, consM, lstM, bin2, negM, testM, sel_t, sel_f, selAnd, selOr, selNot, truth_bl, iteM, bandM, borM, Ev.notM, chainM, callM, bltM, partM, partD, sliceM, rng1M, rng2M, tnilM, tconsM, tnmM, noX, Out.bind, Out.st, opt, okk, getR, List.map, List.replicate, List.append, List.length, List.set, Nat.sub, HAppend.hAppend, Append.append, addF, subF, ltM, leM, gtM, geM, eqM, neM, fin, bltF, one, two, onSeq, onInt, onLst, onSome, seqOf, len0, len1, len2, len3, len4, len5, intF, isaF, tyOf, isaT, E.isNo, Bool.not_true, Bool.not_false, lst_new, List.reverse_cons, List.reverse_nil, boolsOf, List.all, id_eq, Bool.and_true]
  unfold okS
  cases hc : inE x.a && (inE x.b && inE x.c) with
  | false =>
    simp only [tdS_same, tdS_put, ix30, ix31, ix32, ix40, ix41, ix42, ix43, ix20, ix21, Ent.fn, startR, denS, den, asV, asS, asT, consM, lstM, bin2, negM, testM, sel_t, sel_f, selAnd, selOr, selNot, truth_bl, iteM, bandM, borM, Ev.notM, chainM, callM, bltM, partM, partD, sliceM, rng1M, rng2M, tnilM, tconsM, tnmM, noX, Out.bind, Out.st, opt, okk, getR, List.map, List.replicate, List.append, List.length, List.set, Nat.sub, HAppend.hAppend, Append.append, addF, subF, ltM, leM, gtM, geM, eqM, neM, fin, bltF, one, two, onSeq, onInt, onLst, onSome, seqOf, len0, len1, len2, len3, len4, len5, intF, isaF, tyOf, isaT, E.isNo, Bool.not_true, Bool.not_false]
    exact finM_new w rfl
  | true =>
    simp only [Bool.and_eq_true] at hc
    have e1 : ∀ o, tdS m.nx [some (.tup [.int x.a, .int x.b, .int x.c]), none] (m.new o) = m := fun o => tdS_new w rfl
    simp only [tdS_same, tdS_put, ix30, ix31, ix32, ix40, ix41, ix42, ix43, ix20, ix21, Ent.fn, startR, denS, den, asV, asS, asT, consM, lstM, bin2, negM, testM, sel_t, sel_f, selAnd, selOr, selNot, truth_bl, iteM, bandM, borM, Ev.notM, chainM, callM, bltM, partM, partD, sliceM, rng1M, rng2M, tnilM, tconsM, tnmM, noX, Out.bind, Out.st, opt, okk, getR, List.map, List.replicate, List.append, List.length, List.set, Nat.sub, HAppend.hAppend, Append.append, addF, subF, ltM, leM, gtM, geM, eqM, neM, fin, bltF, one, two, onSeq, onInt, onLst, onSome, seqOf, len0, len1, len2, len3, len4, len5, intF, isaF, tyOf, isaT, E.isNo, Bool.not_true, Bool.not_false, lack_run0, inE_b hc.2.1, inE_b hc.2.2, e1, finM_same]
theorem require_run (w : WF m) (x : Sh) (h : okS x = true) : run T (n + 4) 3 [dS x] m = .ok .non m := by
  rw [run_at (f := e3.fn) rfl rfl]
  simp only [tdS_same, tdS_put, ix30, ix31, ix32, ix40, ix41, ix42, ix43, ix20, ix21, Ent.fn, startR, denS, den, asV, asS, asT, consM, lstM, bin2, negM, testM, sel_t, sel_f, selAnd, selOr, selNot, truth_bl, iteM, bandM, borM, Ev.notM, chainM, callM, bltM, partM, partD, sliceM, rng1M, rng2M, tnilM, tconsM, tnmM, noX, Out.bind, Out.st, opt, okk, getR, List.map, List.replicate, List.append, List.length, List.set, Nat.sub, HAppend.hAppend, Append.append, addF, subF, ltM, leM, gtM, geM, eqM, neM, fin, bltF, one, two, onSeq, onInt, onLst, onSome, seqOf, len0, len1, len2, len3, len4, len5, intF, isaF, tyOf, isaT, E.isNo, Bool.not_true, Bool.not_false, e3, isshape_run _ w, h, tdM_same]
theorem okS_a {x : Sh} (h : okS x = true) : inE x.a = true ∧ inE x.b = true ∧ inE x.c = true ∧ 0 < x.a ∧ 0 < disc x := by
  unfold okS at h
  cases hc : inE x.a && (inE x.b && inE x.c) with
  | false => rw [hc] at h; cases h
  | true =>
    rw [hc] at h
    simp only [Bool.and_eq_true, decide_eq_true_eq] at hc h
    exact ⟨hc.1, hc.2.1, hc.2.2, h.1, h.2⟩
theorem pisshape_run (w : WF m) (x : Sh) : run T (n + 4) 10 [dS x] m = .ok (.bl (okS x)) m := by
  rw [run_at (f := e10.fn) rfl rfl]
  simp only [tdS_same, tdS_put, ix30, ix31, ix32, ix40, ix41, ix42, ix43, ix20, ix21, Ent.fn, startR, denS, den, asV, asS, asT, consM, lstM, bin2, negM, testM, sel_t, sel_f, selAnd, selOr, selNot, truth_bl, iteM, bandM, borM, Ev.notM, chainM, callM, bltM, partM, partD, sliceM, rng1M, rng2M, tnilM, tconsM, tnmM, noX, Out.bind, Out.st, opt, okk, getR, List.map, List.replicate, List.append, List.length, List.set, Nat.sub, HAppend.hAppend, Append.append, addF, subF, ltM, leM, gtM, geM, eqM, neM, fin, bltF, one, two, onSeq, onInt, onLst, onSome, seqOf, len0, len1, len2, len3, len4, len5, intF, isaF, tyOf, isaT, E.isNo, Bool.not_true, Bool.not_false, e10, isshape_run _ w, finM_same]
theorem plack_run (w : WF m) (x : Sh) (h : okS x = true) : run T (n + 5) 11 [dS x] m = .ok (.int (disc x)) m := by
  obtain ⟨_, h2, h3, _, _⟩ := okS_a h
  rw [run_at (f := e11.fn) rfl rfl]
  simp only [tdS_same, tdS_put, ix30, ix31, ix32, ix40, ix41, ix42, ix43, ix20, ix21, Ent.fn, startR, denS, den, asV, asS, asT, consM, lstM, bin2, negM, testM, sel_t, sel_f, selAnd, selOr, selNot, truth_bl, iteM, bandM, borM, Ev.notM, chainM, callM, bltM, partM, partD, sliceM, rng1M, rng2M, tnilM, tconsM, tnmM, noX, Out.bind, Out.st, opt, okk, getR, List.map, List.replicate, List.append, List.length, List.set, Nat.sub, HAppend.hAppend, Append.append, addF, subF, ltM, leM, gtM, geM, eqM, neM, fin, bltF, one, two, onSeq, onInt, onLst, onSome, seqOf, len0, len1, len2, len3, len4, len5, intF, isaF, tyOf, isaT, E.isNo, Bool.not_true, Bool.not_false, e11, require_run _ w _ h, lack_run _ _ x (inE_b h2) (inE_b h3), finM_same]
theorem pisred_run (w : WF m) (x : Sh) (h : okS x = true) : run T (n + 5) 12 [dS x] m = .ok (.bl (isRed x)) m := by
  rw [run_at (f := e12.fn) rfl rfl]
  simp only [tdS_same, tdS_put, ix30, ix31, ix32, ix40, ix41, ix42, ix43, ix20, ix21, Ent.fn, startR, denS, den, asV, asS, asT, consM, lstM, bin2, negM, testM, sel_t, sel_f, selAnd, selOr, selNot, truth_bl, iteM, bandM, borM, Ev.notM, chainM, callM, bltM, partM, partD, sliceM, rng1M, rng2M, tnilM, tconsM, tnmM, noX, Out.bind, Out.st, opt, okk, getR, List.map, List.replicate, List.append, List.length, List.set, Nat.sub, HAppend.hAppend, Append.append, addF, subF, ltM, leM, gtM, geM, eqM, neM, fin, bltF, one, two, onSeq, onInt, onLst, onSome, seqOf, len0, len1, len2, len3, len4, len5, intF, isaF, tyOf, isaT, E.isNo, Bool.not_true, Bool.not_false, e12, require_run _ w _ h, isred_run, finM_same]
end Pf

set_option Elab.async false
set_option linter.all false
set_option maxRecDepth 100000
set_option maxHeartbeats 1000000
namespace Pf
open PySem L2 Ev
/-! the plain law of leading -/
theorem led_led (x : Sh) (t u : Tb) : led (led x t) u = led x (tms t u) := by
  simp only [led, tms, Sh.mk.injEq]
  refine ⟨?_, ?_, ?_⟩ <;> grind
theorem det_tms (t u : Tb) : det (tms t u) = det t * det u := by
  simp only [det, tms]; grind
theorem disc_led (x : Sh) (t : Tb) : disc (led x t) = disc x * (det t * det t) := by
  simp only [det, disc, led]; grind
theorem sq_r (x : Sh) (t : Tb) : 4 * x.a * (led x t).a = (2 * x.a * t.p + x.b * t.r) * (2 * x.a * t.p + x.b * t.r) + disc x * (t.r * t.r) := by
  simp only [disc, led]; grind
theorem sq_p (x : Sh) (t : Tb) : 4 * x.c * (led x t).a = (2 * x.c * t.r + x.b * t.p) * (2 * x.c * t.r + x.b * t.p) + disc x * (t.p * t.p) := by
  simp only [disc, led]; grind
theorem sq_s (x : Sh) (t : Tb) : 4 * x.a * (led x t).c = (2 * x.a * t.q + x.b * t.s) * (2 * x.a * t.q + x.b * t.s) + disc x * (t.s * t.s) := by
  simp only [disc, led]; grind
theorem sq_q (x : Sh) (t : Tb) : 4 * x.c * (led x t).c = (2 * x.c * t.s + x.b * t.q) * (2 * x.c * t.s + x.b * t.q) + disc x * (t.q * t.q) := by
  simp only [disc, led]; grind
def many (x : Sh) : Int := (x.a - x.b).fdiv (2 * x.a)
def stp (x : Sh) : Tb := ⟨1, many x, 0, 1⟩
def tW : Tb := ⟨0, -1, 1, 0⟩
def tI : Tb := ⟨1, 0, 0, 1⟩
def x1 (x : Sh) : Sh := led x (stp x)
def stop (x : Sh) : Bool := decide (x.a < x.c) || (decide (x.a = x.c) && decide (0 ≤ x.b))
theorem x1_eq (x : Sh) : x1 x = ⟨x.a, x.b + 2 * x.a * many x, x.a * many x * many x + x.b * many x + x.c⟩ := by
  simp only [x1, led, stp, Sh.mk.injEq]
  refine ⟨?_, ?_, ?_⟩ <;> grind
theorem led_W (x : Sh) : led x tW = ⟨x.c, -x.b, x.a⟩ := by
  simp only [led, tW, Sh.mk.injEq]
  refine ⟨?_, ?_, ?_⟩ <;> grind
theorem led_I (x : Sh) : led x tI = x := by
  obtain ⟨a, b, c⟩ := x
  simp only [led, tI, Sh.mk.injEq]
  refine ⟨?_, ?_, ?_⟩ <;> grind
theorem tms_I (t : Tb) : tms t tI = t := by
  obtain ⟨p, q, r, s⟩ := t
  simp only [tms, tI, Tb.mk.injEq]
  refine ⟨?_, ?_, ?_, ?_⟩ <;> grind
theorem many_spec {x : Sh} (h : 0 < x.a) : -x.a < x.b + 2 * x.a * many x ∧ x.b + 2 * x.a * many x ≤ x.a := by
  have e : many x = (x.a - x.b) / (2 * x.a) := Int.fdiv_eq_ediv_of_nonneg _ (by omega)
  have h1 := Int.mul_ediv_add_emod (x.a - x.b) (2 * x.a)
  have h2 := Int.emod_nonneg (x.a - x.b) (b := 2 * x.a) (by omega)
  have h3 := Int.emod_lt_of_pos (x.a - x.b) (b := 2 * x.a) (by omega)
  rw [e]
  omega
theorem many_uniq {x : Sh} (h : 0 < x.a) (h1 : -x.a < x.b) (h2 : x.b ≤ x.a) : many x = 0 := by
  have e : many x = (x.a - x.b) / (2 * x.a) := Int.fdiv_eq_ediv_of_nonneg _ (by omega)
  rw [e]
  exact Int.ediv_eq_zero_of_lt (by omega) (by omega)
theorem many_zero {x : Sh} (h : 0 < x.a) (e : many x = 0) : -x.a < x.b ∧ x.b ≤ x.a := by
  have := many_spec h
  rw [e] at this
  omega
theorem many_x1 {x : Sh} (h : 0 < x.a) : many (x1 x) = 0 := by
  have := many_spec h
  rw [x1_eq]
  exact many_uniq (by exact h) this.1 this.2
theorem x1_zero {x : Sh} (e : many x = 0) : x1 x = x ∧ stp x = tI := by
  have : stp x = tI := by simp only [stp, tI, e]
  exact ⟨by unfold x1; rw [this, led_I], this⟩
theorem isRed_iff (x : Sh) : isRed x = true ↔ (absI x.b ≤ x.a ∧ x.a ≤ x.c) ∧ (0 ≤ x.b ∨ (0 - x.b ≠ x.a ∧ x.a ≠ x.c)) := by
  unfold isRed
  by_cases h1 : x.a < absI x.b
  · rw [show decide (x.a < absI x.b) = true from decide_eq_true h1, Bool.true_or]
    simp
    omega
  · by_cases h2 : x.c < x.a
    · rw [show decide (x.c < x.a) = true from decide_eq_true h2, Bool.or_true]
      simp
      omega
    · rw [show decide (x.a < absI x.b) = false from decide_eq_false h1, show decide (x.c < x.a) = false from decide_eq_false h2]
      simp only [Bool.or_self, Bool.or_eq_true, Bool.and_eq_true, Bool.not_eq_true', decide_eq_true_eq, decide_eq_false_iff_not]
      constructor
      · intro h; exact ⟨⟨by omega, by omega⟩, h⟩
      · intro h; exact h.2
theorem stop_iff (x : Sh) : stop x = true ↔ x.a < x.c ∨ (x.a = x.c ∧ 0 ≤ x.b) := by
  simp only [stop, Bool.or_eq_true, Bool.and_eq_true, decide_eq_true_eq]
theorem red_many {x : Sh} (h : 0 < x.a) (r : isRed x = true) : many x = 0 := by
  have := (isRed_iff x).mp r
  unfold absI at this
  refine many_uniq h ?_ ?_ <;> (split at this <;> omega)
theorem red_stop {x : Sh} (h : 0 < x.a) (e : many x = 0) : stop x = isRed x := by
  have := many_zero h e
  rw [Bool.eq_iff_iff, stop_iff, isRed_iff]
  unfold absI
  split <;> omega
/-- how far it is -/
def mu (x : Sh) : Nat := (4 * x.a).toNat + (if many x = 0 then 0 else 2) + (if x.b < 0 then 1 else 0)
theorem mu_x1 {x : Sh} (h : 0 < x.a) (e : many x ≠ 0) : mu (x1 x) < mu x := by
  have h1 := many_x1 h
  unfold mu
  rw [if_pos h1, if_neg e]
  rw [x1_eq]
  dsimp only
  split <;> split <;> omega
theorem mu_W {x : Sh} (h : 0 < x.a) (hc : 0 < x.c) (e : many x = 0) (s : stop x = false) : mu (led x tW) < mu x := by
  have hs : ¬ (x.a < x.c ∨ (x.a = x.c ∧ 0 ≤ x.b)) := by rw [← stop_iff, s]; simp
  have hz := many_zero h e
  by_cases hk : x.c < x.a
  · unfold mu
    rw [led_W]
    dsimp only
    have : (if many ⟨x.c, -x.b, x.a⟩ = 0 then (0 : Nat) else 2) ≤ 2 := by split <;> omega
    split <;> split <;> omega
  · have e1 : x.a = x.c := by omega
    have hb : x.b < 0 := by omega
    have m0 : many ⟨x.c, -x.b, x.a⟩ = 0 := many_uniq (by exact hc) (show -x.c < -x.b by omega) (show -x.b ≤ x.c by omega)
    unfold mu
    rw [led_W, if_pos m0, if_pos e, if_pos hb]
    dsimp only
    rw [if_neg (show ¬ -x.b < 0 by omega)]
    omega
/-- what stands through the steps -/
structure Inv0 (x0 x : Sh) (t : Tb) : Prop where
  ok : okS x0 = true
  led : led x0 t = x
  det : det t = 1
  a : 0 < x.a
  a2 : x.a ≤ 1000000
  b : -1000000 ≤ x.b ∧ x.b ≤ 1000000
  c : x.c ≤ 5000000000000
theorem Inv0.disc {x0 x : Sh} {t : Tb} (i : Inv0 x0 x t) : disc x = disc x0 := by
  rw [← i.led, disc_led, i.det]
  omega
theorem disc_le {x : Sh} (h : okS x = true) : disc x ≤ 4000000000000 := by
  obtain ⟨h1, h2, h3, h4, h5⟩ := okS_a h
  simp only [inE, Bool.and_eq_true, decide_eq_true_eq] at h1 h2 h3
  have hb : 0 ≤ x.b * x.b := by
    rcases Int.le_total 0 x.b with h | h
    · exact Int.mul_nonneg h h
    · have := Int.mul_nonneg (show 0 ≤ -x.b by omega) (show 0 ≤ -x.b by omega)
      grind
  have hac : x.a * x.c ≤ 1000000 * 1000000 := by
    rcases Int.le_total 0 x.c with h | h
    · exact Int.mul_le_mul h1.2 h3.2 h (by omega)
    · have : x.a * x.c ≤ 0 := Int.mul_nonpos_of_nonneg_of_nonpos (by omega) h
      omega
  unfold disc
  grind
theorem sq_nn (i : Int) : 0 ≤ i * i := by
  rcases Int.le_total 0 i with h | h
  · exact Int.mul_nonneg h h
  · have := Int.mul_nonneg (show 0 ≤ -i by omega) (show 0 ≤ -i by omega)
    grind
theorem c_pos {x : Sh} (h : 0 < x.a) (d : 0 < disc x) : 0 < x.c := by
  have := sq_nn x.b
  unfold disc at d
  refine Classical.byContradiction fun hc => ?_
  have : x.a * x.c ≤ 0 := Int.mul_nonpos_of_nonneg_of_nonpos (by omega) (by omega)
  grind
theorem sq_b64 {i : Int} (h : i * i ≤ 100000000000000000000) : b64 i = true := by
  simp only [b64, Bool.and_eq_true, decide_eq_true_eq]
  constructor
  · refine Classical.byContradiction fun hn => ?_
    have := Int.mul_le_mul (show 18446744073709551616 ≤ -i by omega) (show 18446744073709551616 ≤ -i by omega) (by omega) (by omega)
    have e : -i * -i = i * i := by grind
    omega
  · refine Classical.byContradiction fun hn => ?_
    have := Int.mul_le_mul (show 18446744073709551616 ≤ i by omega) (show 18446744073709551616 ≤ i by omega) (by omega) (by omega)
    omega
theorem part_le {u v d w : Int} (hd : 1 ≤ d) (e : u = v * v + d * (w * w)) : w * w ≤ u := by
  have h1 := sq_nn v
  have h2 := sq_nn w
  have h3 : 0 ≤ (d - 1) * (w * w) := Int.mul_nonneg (by omega) h2
  grind
theorem mul_le' {a b A B : Int} (h : a ≤ A) (h2 : b ≤ B) (ha : 0 ≤ b) (hA : 0 ≤ A) : a * b ≤ A * B := Int.mul_le_mul h h2 ha hA
theorem Inv0.tm {x0 x : Sh} {t : Tb} (i : Inv0 x0 x t) : Tm t := by
  obtain ⟨h1, h2, h3, h4, h5⟩ := okS_a i.ok
  have hc0 := c_pos h4 h5
  have hcx : 0 < x.c := c_pos i.a (by rw [i.disc]; exact h5)
  simp only [inE, Bool.and_eq_true, decide_eq_true_eq] at h1 h2 h3
  have e1 := sq_p x0 t
  have e2 := sq_q x0 t
  have e3 := sq_r x0 t
  have e4 := sq_s x0 t
  rw [i.led] at e1 e2 e3 e4
  have k1 := part_le (by omega) e1
  have k2 := part_le (by omega) e2
  have k3 := part_le (by omega) e3
  have k4 := part_le (by omega) e4
  have b1 : x0.c * x.a ≤ 1000000 * 1000000 := mul_le' h3.2 i.a2 (by have := i.a; omega) (by omega)
  have b2 : x0.c * x.c ≤ 1000000 * 5000000000000 := mul_le' h3.2 i.c (by omega) (by omega)
  have b3 : x0.a * x.a ≤ 1000000 * 1000000 := mul_le' h1.2 i.a2 (by have := i.a; omega) (by omega)
  have b4 : x0.a * x.c ≤ 1000000 * 5000000000000 := mul_le' h1.2 i.c (by omega) (by omega)
  refine ⟨sq_b64 ?_, sq_b64 ?_, sq_b64 ?_, sq_b64 ?_⟩ <;> grind
theorem Inv0.start {x : Sh} (h : okS x = true) : Inv0 x x tI := by
  obtain ⟨h1, h2, h3, h4, h5⟩ := okS_a h
  simp only [inE, Bool.and_eq_true, decide_eq_true_eq] at h1 h2 h3
  exact ⟨h, led_I x, rfl, h4, h1.2, h2, by omega⟩
theorem Inv0.step {x0 x : Sh} {t : Tb} (i : Inv0 x0 x t) : Inv0 x0 (x1 x) (tms t (stp x)) := by
  have hm := many_spec i.a
  have hd : Pf.disc (x1 x) = Pf.disc x0 := by
    unfold x1
    rw [disc_led, i.disc]
    have : Pf.det (stp x) = 1 := by simp only [Pf.det, stp]; omega
    rw [this]; omega
  have h5 := (okS_a i.ok).2.2.2.2
  have hl := disc_le i.ok
  have ha := i.a
  have ha2 := i.a2
  have e1 : (x1 x).a = x.a := by rw [x1_eq]
  have e2 : (x1 x).b = x.b + 2 * x.a * many x := by rw [x1_eq]
  have hc : 0 < (x1 x).c := c_pos (by rw [e1]; exact ha) (by rw [hd]; exact h5)
  refine ⟨i.ok, by rw [← led_led, i.led]; rfl, by rw [det_tms, i.det]; simp only [Pf.det, stp]; omega, by rw [e1]; exact ha, by rw [e1]; exact ha2, by rw [e2]; omega, ?_⟩
  have hb : (x1 x).b * (x1 x).b ≤ 1000000 * 1000000 := by
    have h1 : (x1 x).b ≤ 1000000 := by rw [e2]; omega
    have h2 : -1000000 ≤ (x1 x).b := by rw [e2]; omega
    rcases Int.le_total 0 (x1 x).b with h | h
    · exact mul_le' h1 h1 h (by omega)
    · have := mul_le' (show -(x1 x).b ≤ 1000000 by omega) (show -(x1 x).b ≤ 1000000 by omega) (by omega) (by omega)
      grind
  have hd2 : 4 * (x1 x).a * (x1 x).c = Pf.disc x0 + (x1 x).b * (x1 x).b := by rw [← hd]; unfold Pf.disc; omega
  have h3 : (x1 x).c ≤ (x1 x).a * (x1 x).c := by
    have : 0 ≤ ((x1 x).a - 1) * (x1 x).c := Int.mul_nonneg (by rw [e1]; omega) (by omega)
    grind
  grind
theorem Inv0.swap {x0 x : Sh} {t : Tb} (i : Inv0 x0 x t) (e : many x = 0) (s : stop x = false) : Inv0 x0 (Pf.led x tW) (tms t tW) := by
  have hs : ¬ (x.a < x.c ∨ (x.a = x.c ∧ 0 ≤ x.b)) := by rw [← stop_iff, s]; simp
  have h5 := (okS_a i.ok).2.2.2.2
  have hc : 0 < x.c := c_pos i.a (by rw [i.disc]; exact h5)
  have ha2 := i.a2
  have hb := i.b
  refine ⟨i.ok, by rw [← led_led, i.led], by rw [det_tms, i.det]; rfl, ?_, ?_, ?_, ?_⟩ <;> rw [led_W] <;> dsimp only <;> omega
end Pf

set_option Elab.async false
set_option linter.all false
set_option maxRecDepth 100000
set_option maxHeartbeats 1000000
namespace Pf
open PySem L2 Ev
def cL : E := (.const (.bl true))
def bL : S := (.seq (.asg (.ttup (.tcons (.tnm 2) (.tcons (.tnm 3) (.tcons (.tnm 4) .tnil)))) (.var 0)) (.seq (.asg (.tnm 5) (.bin .fdiv (.bin .sub (.var 2) (.var 3)) (.bin .mul (.const (.int 2)) (.var 2)))) (.seq (.asg (.tnm 6) (.tup (.cons (.const (.int 1)) (.cons (.var 5) (.cons (.const (.int 0)) (.cons (.const (.int 1)) .nil)))))) (.seq (.iff (.cmp .eq (.var 5) (.const (.int 0))) (.seq (.iff (.bor (.cmp .lt (.var 2) (.var 4)) (.band (.cmp .eq (.var 2) (.var 4)) (.cmp .ge (.var 3) (.const (.int 0))))) (.seq (.ret (.tup (.cons (.var 0) (.cons (.var 1) .nil)))) .skip) .skip) (.seq (.asg (.tnm 6) (.tup (.cons (.const (.int 0)) (.cons (.neg (.const (.int 1))) (.cons (.const (.int 1)) (.cons (.const (.int 0)) .nil)))))) .skip)) .skip) (.seq (.par 0 1 (.cons (.call 25 (.cons (.var 0) (.cons (.var 6) .nil))) (.cons (.call 23 (.cons (.var 1) (.cons (.var 6) .nil))) .nil))) .skip)))))
def cP : E := (.bnot (.call 5 (.cons (.var 1) .nil)))
def bP : S := (.seq (.asg (.ttup (.tcons (.tnm 3) (.tcons (.tnm 4) (.tcons (.tnm 5) .tnil)))) (.var 1)) (.seq (.asg (.tnm 6) (.tup (.cons (.const (.int 1)) (.cons (.bin .fdiv (.bin .sub (.var 3) (.var 4)) (.bin .mul (.const (.int 2)) (.var 3))) (.cons (.const (.int 0)) (.cons (.const (.int 1)) .nil)))))) (.seq (.par 1 2 (.cons (.call 6 (.cons (.var 1) (.cons (.var 6) .nil))) (.cons (.call 7 (.cons (.var 2) (.cons (.var 6) .nil))) .nil))) (.seq (.iff (.bnot (.call 5 (.cons (.var 1) .nil))) (.seq (.asg (.tnm 6) (.tup (.cons (.const (.int 0)) (.cons (.neg (.const (.int 1))) (.cons (.const (.int 1)) (.cons (.const (.int 0)) .nil)))))) (.seq (.par 1 2 (.cons (.call 6 (.cons (.var 1) (.cons (.var 6) .nil))) (.cons (.call 7 (.cons (.var 2) (.cons (.var 6) .nil))) .nil))) .skip)) .skip) .skip))))
theorem blt_log {i : Int} (h : -1000000000000000000 ≤ i) (h2 : i ≤ 1000000000000000000) : Nat.blt i.natAbs.log2 9000 = true := by
  refine Nat.ble_eq_true_of_le ?_
  have h3 : i.natAbs < 2 ^ 60 := by omega
  by_cases h0 : i.natAbs = 0
  · rw [h0]; decide
  · have := (Nat.log2_lt h0).mpr h3
    omega
theorem many_le {x : Sh} (h : 0 < x.a) (ha : x.a ≤ 1000000) (hb : -1000000 ≤ x.b ∧ x.b ≤ 1000000) : -1000001 ≤ many x ∧ many x ≤ 1000001 := by
  have := many_spec h
  constructor
  · refine Classical.byContradiction fun hn => ?_
    have h1 : x.a * many x ≤ x.a * (-1000002) := Int.mul_le_mul_of_nonneg_left (by omega) (by omega)
    have e : 2 * x.a * many x = 2 * (x.a * many x) := by grind
    omega
  · refine Classical.byContradiction fun hn => ?_
    have h1 : x.a * 1000002 ≤ x.a * many x := Int.mul_le_mul_of_nonneg_left (by omega) (by omega)
    have e : 2 * x.a * many x = 2 * (x.a * many x) := by grind
    omega
theorem many_b64 {x : Sh} (h : 0 < x.a) (ha : x.a ≤ 1000000) (hb : -1000000 ≤ x.b ∧ x.b ≤ 1000000) : b64 (many x) = true := by
  have := many_le h ha hb
  simp only [b64, Bool.and_eq_true, decide_eq_true_eq]
  omega
/-- of one turn -/
structure Tn (x : Sh) : Prop where
  a : 0 < x.a
  a2 : x.a ≤ 1000000
  b : -1000000 ≤ x.b ∧ x.b ≤ 1000000
theorem Inv0.tn {x0 x : Sh} {t : Tb} (i : Inv0 x0 x t) : Tn x := ⟨i.a, i.a2, i.b⟩
theorem Tn.b64 {x : Sh} (i : Tn x) : Ev.b64 x.b = true := by
  have := i.b
  simp only [Ev.b64, Bool.and_eq_true, decide_eq_true_eq]
  omega
theorem Tn.st {x : Sh} (i : Tn x) : Tm (stp x) := ⟨(by decide : Ev.b64 1 = true), many_b64 i.a i.a2 i.b, (by decide : Ev.b64 0 = true), (by decide : Ev.b64 1 = true)⟩
theorem tmW : Tm tW := ⟨by decide, by decide, by decide, by decide⟩
variable (n : Nat) (m : Mem)
theorem divOk {x : Sh} (i : Tn x) : binF .fdiv (.int (x.a - x.b)) (.int (2 * x.a)) m = .ok (.int (many x)) m := by
  have := i.a
  have := i.a2
  exact fdivF (decide_eq_false (by omega)) (blt_log (by omega) (by omega))
theorem stp_D (x : Sh) : D.tup [.int 1, .int (many x), .int 0, .int 1] = dT (stp x) := rfl
theorem tW_D : D.tup [.int 0, .int (-1), .int 1, .int 0] = dT tW := rfl
theorem lawA {x : Sh} (i : Tn x) (t : Tb) (o2 o3 o4 o5 o6 : Option D) (h : many x ≠ 0) :
    denS (run T (n + 1)) bL [some (dS x), some (dT t), o2, o3, o4, o5, o6] m = .nx [some (dS (x1 x)), some (dT (tms t (stp x))), some (.int x.a), some (.int x.b), some (.int x.c), some (.int (many x)), some (dT (stp x))] m := by
  unfold bL
  have hx : dS x = .tup [.int x.a, .int x.b, .int x.c] := rfl
  rw [hx]
  simp only [tdS_same, tdS_put, ix30, ix31, ix32, ix40, ix41, ix42, ix43, ix20, ix21, Ent.fn, startR, denS, den, asV, asS, asT, consM, lstM, bin2, negM, testM, sel_t, sel_f, selAnd, selOr, selNot, truth_bl, iteM, bandM, borM, Ev.notM, chainM, callM, bltM, partM, partD, sliceM, rng1M, rng2M, tnilM, tconsM, tnmM, noX, Out.bind, Out.st, opt, okk, getR, List.map, List.replicate, List.append, List.length, List.set, Nat.sub, HAppend.hAppend, Append.append, addF, subF, ltM, leM, gtM, geM, eqM, neM, fin, bltF, one, two, onSeq, onInt, onLst, onSome, seqOf, len0, len1, len2, len3, len4, len5, intF, isaF, tyOf, isaT, E.isNo, Bool.not_true, Bool.not_false, mulF_l, bb2, divOk m i, stp_D, decide_eq_false h]
  rw [← hx]
  simp only [tdS_same, tdS_put, ix30, ix31, ix32, ix40, ix41, ix42, ix43, ix20, ix21, Ent.fn, startR, denS, den, asV, asS, asT, consM, lstM, bin2, negM, testM, sel_t, sel_f, selAnd, selOr, selNot, truth_bl, iteM, bandM, borM, Ev.notM, chainM, callM, bltM, partM, partD, sliceM, rng1M, rng2M, tnilM, tconsM, tnmM, noX, Out.bind, Out.st, opt, okk, getR, List.map, List.replicate, List.append, List.length, List.set, Nat.sub, HAppend.hAppend, Append.append, addF, subF, ltM, leM, gtM, geM, eqM, neM, fin, bltF, one, two, onSeq, onInt, onLst, onSome, seqOf, len0, len1, len2, len3, len4, len5, intF, isaF, tyOf, isaT, E.isNo, Bool.not_true, Bool.not_false, lled_run n m x (stp x) i.b64 i.st, ltms_run n m t (stp x) i.st]
  rfl
theorem lawW {x : Sh} (i : Tn x) (t : Tb) (o2 o3 o4 o5 o6 : Option D) (h : many x = 0) (s : stop x = false) :
    denS (run T (n + 1)) bL [some (dS x), some (dT t), o2, o3, o4, o5, o6] m = .nx [some (dS (led x tW)), some (dT (tms t tW)), some (.int x.a), some (.int x.b), some (.int x.c), some (.int (many x)), some (dT tW)] m := by
  unfold bL
  have hx : dS x = .tup [.int x.a, .int x.b, .int x.c] := rfl
  have hs : (decide (x.a < x.c) || (decide (x.a = x.c) && decide (0 ≤ x.b))) = false := s
  rw [hx]
  simp only [tdS_same, tdS_put, ix30, ix31, ix32, ix40, ix41, ix42, ix43, ix20, ix21, Ent.fn, startR, denS, den, asV, asS, asT, consM, lstM, bin2, negM, testM, sel_t, sel_f, selAnd, selOr, selNot, truth_bl, iteM, bandM, borM, Ev.notM, chainM, callM, bltM, partM, partD, sliceM, rng1M, rng2M, tnilM, tconsM, tnmM, noX, Out.bind, Out.st, opt, okk, getR, List.map, List.replicate, List.append, List.length, List.set, Nat.sub, HAppend.hAppend, Append.append, addF, subF, ltM, leM, gtM, geM, eqM, neM, fin, bltF, one, two, onSeq, onInt, onLst, onSome, seqOf, len0, len1, len2, len3, len4, len5, intF, isaF, tyOf, isaT, E.isNo, Bool.not_true, Bool.not_false, mulF_l, bb2, divOk m i, stp_D, decide_eq_true h, hs, negM, tW_D]
  rw [← hx]
  simp only [tdS_same, tdS_put, ix30, ix31, ix32, ix40, ix41, ix42, ix43, ix20, ix21, Ent.fn, startR, denS, den, asV, asS, asT, consM, lstM, bin2, negM, testM, sel_t, sel_f, selAnd, selOr, selNot, truth_bl, iteM, bandM, borM, Ev.notM, chainM, callM, bltM, partM, partD, sliceM, rng1M, rng2M, tnilM, tconsM, tnmM, noX, Out.bind, Out.st, opt, okk, getR, List.map, List.replicate, List.append, List.length, List.set, Nat.sub, HAppend.hAppend, Append.append, addF, subF, ltM, leM, gtM, geM, eqM, neM, fin, bltF, one, two, onSeq, onInt, onLst, onSome, seqOf, len0, len1, len2, len3, len4, len5, intF, isaF, tyOf, isaT, E.isNo, Bool.not_true, Bool.not_false, lled_run n m x tW i.b64 tmW, ltms_run n m t tW tmW]
theorem lawE {x : Sh} (i : Tn x) (t : Tb) (o2 o3 o4 o5 o6 : Option D) (h : many x = 0) (s : stop x = true) :
    denS (run T (n + 1)) bL [some (dS x), some (dT t), o2, o3, o4, o5, o6] m = .ret (.tup [dS x, dT t]) m := by
  unfold bL
  have hx : dS x = .tup [.int x.a, .int x.b, .int x.c] := rfl
  have hs : (decide (x.a < x.c) || (decide (x.a = x.c) && decide (0 ≤ x.b))) = true := s
  rw [hx]
  simp only [tdS_same, tdS_put, ix30, ix31, ix32, ix40, ix41, ix42, ix43, ix20, ix21, Ent.fn, startR, denS, den, asV, asS, asT, consM, lstM, bin2, negM, testM, sel_t, sel_f, selAnd, selOr, selNot, truth_bl, iteM, bandM, borM, Ev.notM, chainM, callM, bltM, partM, partD, sliceM, rng1M, rng2M, tnilM, tconsM, tnmM, noX, Out.bind, Out.st, opt, okk, getR, List.map, List.replicate, List.append, List.length, List.set, Nat.sub, HAppend.hAppend, Append.append, addF, subF, ltM, leM, gtM, geM, eqM, neM, fin, bltF, one, two, onSeq, onInt, onLst, onSome, seqOf, len0, len1, len2, len3, len4, len5, intF, isaF, tyOf, isaT, E.isNo, Bool.not_true, Bool.not_false, mulF_l, bb2, divOk m i, stp_D, decide_eq_true h, hs]
theorem progA {x : Sh} (i : Tn x) (t : Tb) (o0 o3 o4 o5 o6 : Option D) (r : isRed (x1 x) = true) :
    ∃ p3 p4 p5 p6, denS (run T (n + 1)) bP [o0, some (dS x), some (dT t), o3, o4, o5, o6] m = .nx [o0, some (dS (x1 x)), some (dT (tms t (stp x))), p3, p4, p5, p6] m := by
  refine ⟨some (.int x.a), some (.int x.b), some (.int x.c), some (dT (stp x)), ?_⟩
  unfold bP
  have hx : dS x = .tup [.int x.a, .int x.b, .int x.c] := rfl
  have r : isRed (led x (stp x)) = true := r
  rw [hx]
  simp only [tdS_same, tdS_put, ix30, ix31, ix32, ix40, ix41, ix42, ix43, ix20, ix21, Ent.fn, startR, denS, den, asV, asS, asT, consM, lstM, bin2, negM, testM, sel_t, sel_f, selAnd, selOr, selNot, truth_bl, iteM, bandM, borM, Ev.notM, chainM, callM, bltM, partM, partD, sliceM, rng1M, rng2M, tnilM, tconsM, tnmM, noX, Out.bind, Out.st, opt, okk, getR, List.map, List.replicate, List.append, List.length, List.set, Nat.sub, HAppend.hAppend, Append.append, addF, subF, ltM, leM, gtM, geM, eqM, neM, fin, bltF, one, two, onSeq, onInt, onLst, onSome, seqOf, len0, len1, len2, len3, len4, len5, intF, isaF, tyOf, isaT, E.isNo, Bool.not_true, Bool.not_false, mulF_l, bb2, divOk m i, stp_D]
  rw [← hx]
  simp only [tdS_same, tdS_put, ix30, ix31, ix32, ix40, ix41, ix42, ix43, ix20, ix21, Ent.fn, startR, denS, den, asV, asS, asT, consM, lstM, bin2, negM, testM, sel_t, sel_f, selAnd, selOr, selNot, truth_bl, iteM, bandM, borM, Ev.notM, chainM, callM, bltM, partM, partD, sliceM, rng1M, rng2M, tnilM, tconsM, tnmM, noX, Out.bind, Out.st, opt, okk, getR, List.map, List.replicate, List.append, List.length, List.set, Nat.sub, HAppend.hAppend, Append.append, addF, subF, ltM, leM, gtM, geM, eqM, neM, fin, bltF, one, two, onSeq, onInt, onLst, onSome, seqOf, len0, len1, len2, len3, len4, len5, intF, isaF, tyOf, isaT, E.isNo, Bool.not_true, Bool.not_false, led_run n m x (stp x) i.b64 i.st, tms_run n m t (stp x) i.st, isred_run n m, r]
  rfl
theorem progB {x : Sh} (i : Tn x) (i1 : Tn (x1 x)) (t : Tb) (o0 o3 o4 o5 o6 : Option D) (r : isRed (x1 x) = false) :
    ∃ p3 p4 p5 p6, denS (run T (n + 1)) bP [o0, some (dS x), some (dT t), o3, o4, o5, o6] m = .nx [o0, some (dS (led (x1 x) tW)), some (dT (tms (tms t (stp x)) tW)), p3, p4, p5, p6] m := by
  refine ⟨some (.int x.a), some (.int x.b), some (.int x.c), some (dT tW), ?_⟩
  unfold bP
  have hx : dS x = .tup [.int x.a, .int x.b, .int x.c] := rfl
  have r : isRed (led x (stp x)) = false := r
  have i1 : Tn (led x (stp x)) := i1
  rw [hx]
  simp only [tdS_same, tdS_put, ix30, ix31, ix32, ix40, ix41, ix42, ix43, ix20, ix21, Ent.fn, startR, denS, den, asV, asS, asT, consM, lstM, bin2, negM, testM, sel_t, sel_f, selAnd, selOr, selNot, truth_bl, iteM, bandM, borM, Ev.notM, chainM, callM, bltM, partM, partD, sliceM, rng1M, rng2M, tnilM, tconsM, tnmM, noX, Out.bind, Out.st, opt, okk, getR, List.map, List.replicate, List.append, List.length, List.set, Nat.sub, HAppend.hAppend, Append.append, addF, subF, ltM, leM, gtM, geM, eqM, neM, fin, bltF, one, two, onSeq, onInt, onLst, onSome, seqOf, len0, len1, len2, len3, len4, len5, intF, isaF, tyOf, isaT, E.isNo, Bool.not_true, Bool.not_false, mulF_l, bb2, divOk m i, stp_D]
  rw [← hx]
  simp only [tdS_same, tdS_put, ix30, ix31, ix32, ix40, ix41, ix42, ix43, ix20, ix21, Ent.fn, startR, denS, den, asV, asS, asT, consM, lstM, bin2, negM, testM, sel_t, sel_f, selAnd, selOr, selNot, truth_bl, iteM, bandM, borM, Ev.notM, chainM, callM, bltM, partM, partD, sliceM, rng1M, rng2M, tnilM, tconsM, tnmM, noX, Out.bind, Out.st, opt, okk, getR, List.map, List.replicate, List.append, List.length, List.set, Nat.sub, HAppend.hAppend, Append.append, addF, subF, ltM, leM, gtM, geM, eqM, neM, fin, bltF, one, two, onSeq, onInt, onLst, onSome, seqOf, len0, len1, len2, len3, len4, len5, intF, isaF, tyOf, isaT, E.isNo, Bool.not_true, Bool.not_false, led_run n m x (stp x) i.b64 i.st, tms_run n m t (stp x) i.st, isred_run n m, r, negM, tW_D, led_run n m (led x (stp x)) tW i1.b64 tmW, tms_run n m (tms t (stp x)) tW tmW]
  rfl
abbrev WL (k : Nat) (ρ : Rho) (m : Mem) : OutS := whileL (testM (den (run T (n + 1)) cL).e) (fun ρ m => denS (run T (n + 1)) bL ρ m) k ρ m
abbrev WP (k : Nat) (ρ : Rho) (m : Mem) : OutS := whileL (testM (den (run T (n + 1)) cP).e) (fun ρ m => denS (run T (n + 1)) bP ρ m) k ρ m
theorem WL_nx {k : Nat} {ρ ρ' : Rho} (h : denS (run T (n + 1)) bL ρ m = .nx ρ' m) : WL n (k + 1) ρ m = WL n k ρ' m := by
  have c : testM (den (run T (n + 1)) cL).e ρ m = .ok true m := by unfold cL; simp only [tdS_same, tdS_put, ix30, ix31, ix32, ix40, ix41, ix42, ix43, ix20, ix21, Ent.fn, startR, denS, den, asV, asS, asT, consM, lstM, bin2, negM, testM, sel_t, sel_f, selAnd, selOr, selNot, truth_bl, iteM, bandM, borM, Ev.notM, chainM, callM, bltM, partM, partD, sliceM, rng1M, rng2M, tnilM, tconsM, tnmM, noX, Out.bind, Out.st, opt, okk, getR, List.map, List.replicate, List.append, List.length, List.set, Nat.sub, HAppend.hAppend, Append.append, addF, subF, ltM, leM, gtM, geM, eqM, neM, fin, bltF, one, two, onSeq, onInt, onLst, onSome, seqOf, len0, len1, len2, len3, len4, len5, intF, isaF, tyOf, isaT, E.isNo, Bool.not_true, Bool.not_false]
  show (testM (den (run T (n + 1)) cL).e ρ m).st ρ _ = _
  rw [c]
  show (match denS (run T (n + 1)) bL ρ m with
      | .nx ρ' m' => WL n k (tdR m.nx m' ρ') (tdM m.nx m')
      | .cnt ρ' m' => WL n k (tdR m.nx m' ρ') (tdM m.nx m')
      | .brk ρ' m' => .nx ρ' m'
      | .ret d m' => .ret d m'
      | .exc x ρ' m' => .exc x ρ' m'
      | .bad => .bad) = _
  rw [h]
  dsimp only
  rw [tdR_same, tdM_same]
theorem WL_ret {k : Nat} {ρ : Rho} {d : D} (h : denS (run T (n + 1)) bL ρ m = .ret d m) : WL n (k + 1) ρ m = .ret d m := by
  have c : testM (den (run T (n + 1)) cL).e ρ m = .ok true m := by unfold cL; simp only [tdS_same, tdS_put, ix30, ix31, ix32, ix40, ix41, ix42, ix43, ix20, ix21, Ent.fn, startR, denS, den, asV, asS, asT, consM, lstM, bin2, negM, testM, sel_t, sel_f, selAnd, selOr, selNot, truth_bl, iteM, bandM, borM, Ev.notM, chainM, callM, bltM, partM, partD, sliceM, rng1M, rng2M, tnilM, tconsM, tnmM, noX, Out.bind, Out.st, opt, okk, getR, List.map, List.replicate, List.append, List.length, List.set, Nat.sub, HAppend.hAppend, Append.append, addF, subF, ltM, leM, gtM, geM, eqM, neM, fin, bltF, one, two, onSeq, onInt, onLst, onSome, seqOf, len0, len1, len2, len3, len4, len5, intF, isaF, tyOf, isaT, E.isNo, Bool.not_true, Bool.not_false]
  show (testM (den (run T (n + 1)) cL).e ρ m).st ρ _ = _
  rw [c]
  show (match denS (run T (n + 1)) bL ρ m with
      | .nx ρ' m' => WL n k (tdR m.nx m' ρ') (tdM m.nx m')
      | .cnt ρ' m' => WL n k (tdR m.nx m' ρ') (tdM m.nx m')
      | .brk ρ' m' => .nx ρ' m'
      | .ret d m' => .ret d m'
      | .exc x ρ' m' => .exc x ρ' m'
      | .bad => .bad) = _
  rw [h]
theorem cP_run {x : Sh} {o0 o2 o3 o4 o5 o6 : Option D} : testM (den (run T (n + 1)) cP).e [o0, some (dS x), o2, o3, o4, o5, o6] m = .ok (!isRed x) m := by
  unfold cP; simp only [tdS_same, tdS_put, ix30, ix31, ix32, ix40, ix41, ix42, ix43, ix20, ix21, Ent.fn, startR, denS, den, asV, asS, asT, consM, lstM, bin2, negM, testM, sel_t, sel_f, selAnd, selOr, selNot, truth_bl, iteM, bandM, borM, Ev.notM, chainM, callM, bltM, partM, partD, sliceM, rng1M, rng2M, tnilM, tconsM, tnmM, noX, Out.bind, Out.st, opt, okk, getR, List.map, List.replicate, List.append, List.length, List.set, Nat.sub, HAppend.hAppend, Append.append, addF, subF, ltM, leM, gtM, geM, eqM, neM, fin, bltF, one, two, onSeq, onInt, onLst, onSome, seqOf, len0, len1, len2, len3, len4, len5, intF, isaF, tyOf, isaT, E.isNo, Bool.not_true, Bool.not_false, isred_run n m]
theorem WP_end {k : Nat} {x : Sh} {o0 o2 o3 o4 o5 o6 : Option D} (h : isRed x = true) : WP n (k + 1) [o0, some (dS x), o2, o3, o4, o5, o6] m = .nx [o0, some (dS x), o2, o3, o4, o5, o6] m := by
  show (testM (den (run T (n + 1)) cP).e _ m).st _ _ = _
  rw [cP_run, h] <;> rfl
theorem WP_nx {k : Nat} {x : Sh} {o0 o2 o3 o4 o5 o6 : Option D} {ρ' : Rho} (r : isRed x = false) (h : denS (run T (n + 1)) bP [o0, some (dS x), o2, o3, o4, o5, o6] m = .nx ρ' m) : WP n (k + 1) [o0, some (dS x), o2, o3, o4, o5, o6] m = WP n k ρ' m := by
  show (testM (den (run T (n + 1)) cP).e _ m).st _ _ = _
  rw [cP_run, r]
  show (match denS (run T (n + 1)) bP [o0, some (dS x), o2, o3, o4, o5, o6] m with
      | .nx ρ' m' => WP n k (tdR m.nx m' ρ') (tdM m.nx m')
      | .cnt ρ' m' => WP n k (tdR m.nx m' ρ') (tdM m.nx m')
      | .brk ρ' m' => .nx ρ' m'
      | .ret d m' => .ret d m'
      | .exc x ρ' m' => .exc x ρ' m'
      | .bad => .bad) = _
  rw [h]
  dsimp only
  rw [tdR_same, tdM_same]
omit n m in
theorem both {x0 : Sh} : ∀ N x t, Inv0 x0 x t → mu x ≤ N → ∃ x' t', Inv0 x0 x' t' ∧ isRed x' = true ∧
    (∀ n k m o2 o3 o4 o5 o6, mu x < k → WL n k [some (dS x), some (dT t), o2, o3, o4, o5, o6] m = .ret (.tup [dS x', dT t']) m) ∧
    (∀ n k m o0 o3 o4 o5 o6, mu x < k → ∃ p3 p4 p5 p6, WP n k [o0, some (dS x), some (dT t), o3, o4, o5, o6] m = .nx [o0, some (dS x'), some (dT t'), p3, p4, p5, p6] m) := by
  intro N
  induction N with
  | zero =>
    intro x t i h
    have := i.a
    unfold mu at h
    omega
  | succ N ih =>
    intro x t i h
    have h5 := (okS_a i.ok).2.2.2.2
    by_cases hr : isRed x = true
    · have hm := red_many i.a hr
      refine ⟨x, t, i, hr, fun n k m o2 o3 o4 o5 o6 hk => ?_, fun n k m o0 o3 o4 o5 o6 hk => ?_⟩
      · obtain ⟨k, rfl⟩ : ∃ j, k = j + 1 := ⟨k - 1, by omega⟩
        exact WL_ret n m (lawE n m i.tn t o2 o3 o4 o5 o6 hm (by rw [red_stop i.a hm]; exact hr))
      · obtain ⟨k, rfl⟩ : ∃ j, k = j + 1 := ⟨k - 1, by omega⟩
        exact ⟨o3, o4, o5, o6, WP_end n m hr⟩
    · have hr : isRed x = false := by simpa using hr
      have i1 := i.step
      -- the law comes to x1
      have toX1 : ∀ n k m o2 o3 o4 o5 o6, mu x < k → ∃ j p2 p3 p4 p5 p6, mu (x1 x) < j ∧ WL n k [some (dS x), some (dT t), o2, o3, o4, o5, o6] m = WL n j [some (dS (x1 x)), some (dT (tms t (stp x))), p2, p3, p4, p5, p6] m := by
        intro n k m o2 o3 o4 o5 o6 hk
        by_cases hm : many x = 0
        · obtain ⟨e1, e2⟩ := x1_zero hm
          rw [e1, e2, tms_I]
          exact ⟨k, o2, o3, o4, o5, o6, hk, rfl⟩
        · have := mu_x1 i.a hm
          obtain ⟨k, rfl⟩ : ∃ j, k = j + 1 := ⟨k - 1, by omega⟩
          exact ⟨k, _, _, _, _, _, by omega, WL_nx n m (lawA n m i.tn t o2 o3 o4 o5 o6 hm)⟩
      have hm1 := many_x1 i.a
      have mu1 : mu (x1 x) ≤ mu x := by
        by_cases hm : many x = 0
        · rw [(x1_zero hm).1]; exact Nat.le_refl _
        · exact Nat.le_of_lt (mu_x1 i.a hm)
      by_cases r1 : isRed (x1 x) = true
      · -- x is not reduced, so x1 is another
        have hm : many x ≠ 0 := fun hm => by rw [(x1_zero hm).1, hr] at r1; cases r1
        have lt1 := mu_x1 i.a hm
        obtain ⟨x', t', i', r', hl, hp⟩ := ih (x1 x) _ i1 (by omega)
        refine ⟨x', t', i', r', fun n k m o2 o3 o4 o5 o6 hk => ?_, fun n k m o0 o3 o4 o5 o6 hk => ?_⟩
        · obtain ⟨j, p2, p3, p4, p5, p6, hj, e⟩ := toX1 n k m o2 o3 o4 o5 o6 hk
          rw [e]
          exact hl n j m p2 p3 p4 p5 p6 hj
        · obtain ⟨k, rfl⟩ : ∃ j, k = j + 1 := ⟨k - 1, by omega⟩
          obtain ⟨p3, p4, p5, p6, e⟩ := progA n m i.tn t o0 o3 o4 o5 o6 r1
          rw [WP_nx n m hr e]
          exact hp n k m o0 p3 p4 p5 p6 (by omega)
      · have r1 : isRed (x1 x) = false := by simpa using r1
        have s1 : stop (x1 x) = false := by rw [red_stop i1.a hm1]; exact r1
        have i2 := i1.swap hm1 s1
        have hc : 0 < (x1 x).c := c_pos i1.a (by rw [i1.disc]; exact h5)
        have lt2 := mu_W i1.a hc hm1 s1
        obtain ⟨x', t', i', r', hl, hp⟩ := ih _ _ i2 (by omega)
        refine ⟨x', t', i', r', fun n k m o2 o3 o4 o5 o6 hk => ?_, fun n k m o0 o3 o4 o5 o6 hk => ?_⟩
        · obtain ⟨j, p2, p3, p4, p5, p6, hj, e⟩ := toX1 n k m o2 o3 o4 o5 o6 hk
          rw [e]
          obtain ⟨j, rfl⟩ : ∃ i, j = i + 1 := ⟨j - 1, by omega⟩
          rw [WL_nx n m (lawW n m i1.tn _ p2 p3 p4 p5 p6 hm1 s1)]
          exact hl n j m _ _ _ _ _ (by omega)
        · obtain ⟨k, rfl⟩ : ∃ j, k = j + 1 := ⟨k - 1, by omega⟩
          obtain ⟨p3, p4, p5, p6, e⟩ := progB n m i.tn i1.tn t o0 o3 o4 o5 o6 r1
          rw [WP_nx n m hr e]
          exact hp n k m o0 p3 p4 p5 p6 (by omega)
theorem mu_le {x0 x : Sh} {t : Tb} (i : Inv0 x0 x t) : mu x < wMost := by
  have := i.a2
  unfold mu wMost
  split <;> split <;> omega
/-- the reduced one, the table that leads there -/
theorem red_ex (x : Sh) (h : okS x = true) : ∃ x' t', Inv0 x x' t' ∧ isRed x' = true ∧ ∀ n m, run T (n + 2) 26 [dS x] m = .ok (.tup [dS x', dT t']) m ∧ run T (n + 2) 8 [dS x] m = .ok (.tup [dS x', dT t']) m := by
  have i := Inv0.start h
  obtain ⟨x', t', i', r', hl, hp⟩ := both (mu x) x tI i (Nat.le_refl _)
  refine ⟨x', t', i', r', fun n m => ⟨?_, ?_⟩⟩
  · rw [run_at (f := e26.fn) rfl rfl]
    have a1 : denS (run T (n + 1)) (.asg (.tnm 1) (.tup (.cons (.const (.int 1)) (.cons (.const (.int 0)) (.cons (.const (.int 0)) (.cons (.const (.int 1)) .nil)))))) (startR e26.fn [dS x]) m = .nx [some (dS x), some (dT tI), none, none, none, none, none] m := by
      simp only [tdS_same, tdS_put, ix30, ix31, ix32, ix40, ix41, ix42, ix43, ix20, ix21, Ent.fn, startR, denS, den, asV, asS, asT, consM, lstM, bin2, negM, testM, sel_t, sel_f, selAnd, selOr, selNot, truth_bl, iteM, bandM, borM, Ev.notM, chainM, callM, bltM, partM, partD, sliceM, rng1M, rng2M, tnilM, tconsM, tnmM, noX, Out.bind, Out.st, opt, okk, getR, List.map, List.replicate, List.append, List.length, List.set, Nat.sub, HAppend.hAppend, Append.append, addF, subF, ltM, leM, gtM, geM, eqM, neM, fin, bltF, one, two, onSeq, onInt, onLst, onSome, seqOf, len0, len1, len2, len3, len4, len5, intF, isaF, tyOf, isaT, E.isNo, Bool.not_true, Bool.not_false, e26]
      rfl
    show fin m.nx (match denS (run T (n + 1)) (.asg (.tnm 1) (.tup (.cons (.const (.int 1)) (.cons (.const (.int 0)) (.cons (.const (.int 0)) (.cons (.const (.int 1)) .nil)))))) (startR e26.fn [dS x]) m with
      | .nx ρ' m' => (match WL n wMost ρ' (tdS m.nx ρ' m') with | .nx ρ'' m'' => .nx ρ'' (tdS (tdS m.nx ρ' m').nx ρ'' m'') | o => o)
      | o => o) = _
    rw [a1]
    dsimp only
    rw [tdS_same, hl n wMost m none none none none none (mu_le i)]
    simp only [tdS_same, tdS_put, ix30, ix31, ix32, ix40, ix41, ix42, ix43, ix20, ix21, Ent.fn, startR, denS, den, asV, asS, asT, consM, lstM, bin2, negM, testM, sel_t, sel_f, selAnd, selOr, selNot, truth_bl, iteM, bandM, borM, Ev.notM, chainM, callM, bltM, partM, partD, sliceM, rng1M, rng2M, tnilM, tconsM, tnmM, noX, Out.bind, Out.st, opt, okk, getR, List.map, List.replicate, List.append, List.length, List.set, Nat.sub, HAppend.hAppend, Append.append, addF, subF, ltM, leM, gtM, geM, eqM, neM, fin, bltF, one, two, onSeq, onInt, onLst, onSome, seqOf, len0, len1, len2, len3, len4, len5, intF, isaF, tyOf, isaT, E.isNo, Bool.not_true, Bool.not_false, finM_same]
  · rw [run_at (f := e8.fn) rfl rfl]
    have a1 : denS (run T (n + 1)) (.par 1 2 (.cons (.var 0) (.cons (.const (.tup [ (.int 1) , (.int 0) , (.int 0) , (.int 1) ])) .nil))) (startR e8.fn [dS x]) m = .nx [some (dS x), some (dS x), some (dT tI), none, none, none, none] m := by
      simp only [tdS_same, tdS_put, ix30, ix31, ix32, ix40, ix41, ix42, ix43, ix20, ix21, Ent.fn, startR, denS, den, asV, asS, asT, consM, lstM, bin2, negM, testM, sel_t, sel_f, selAnd, selOr, selNot, truth_bl, iteM, bandM, borM, Ev.notM, chainM, callM, bltM, partM, partD, sliceM, rng1M, rng2M, tnilM, tconsM, tnmM, noX, Out.bind, Out.st, opt, okk, getR, List.map, List.replicate, List.append, List.length, List.set, Nat.sub, HAppend.hAppend, Append.append, addF, subF, ltM, leM, gtM, geM, eqM, neM, fin, bltF, one, two, onSeq, onInt, onLst, onSome, seqOf, len0, len1, len2, len3, len4, len5, intF, isaF, tyOf, isaT, E.isNo, Bool.not_true, Bool.not_false, e8]
      rfl
    obtain ⟨p3, p4, p5, p6, e⟩ := hp n wMost m (some (dS x)) none none none none (mu_le i)
    show fin m.nx (match denS (run T (n + 1)) (.par 1 2 (.cons (.var 0) (.cons (.const (.tup [ (.int 1) , (.int 0) , (.int 0) , (.int 1) ])) .nil))) (startR e8.fn [dS x]) m with
      | .nx ρ' m' => (match WP n wMost ρ' (tdS m.nx ρ' m') with | .nx ρ'' m'' => denS (run T (n + 1)) (.seq (.ret (.tup (.cons (.var 1) (.cons (.var 2) .nil)))) .skip) ρ'' (tdS (tdS m.nx ρ' m').nx ρ'' m'') | o => o)
      | o => o) = _
    rw [a1]
    dsimp only
    rw [tdS_same, e]
    simp only [tdS_same, tdS_put, ix30, ix31, ix32, ix40, ix41, ix42, ix43, ix20, ix21, Ent.fn, startR, denS, den, asV, asS, asT, consM, lstM, bin2, negM, testM, sel_t, sel_f, selAnd, selOr, selNot, truth_bl, iteM, bandM, borM, Ev.notM, chainM, callM, bltM, partM, partD, sliceM, rng1M, rng2M, tnilM, tconsM, tnmM, noX, Out.bind, Out.st, opt, okk, getR, List.map, List.replicate, List.append, List.length, List.set, Nat.sub, HAppend.hAppend, Append.append, addF, subF, ltM, leM, gtM, geM, eqM, neM, fin, bltF, one, two, onSeq, onInt, onLst, onSome, seqOf, len0, len1, len2, len3, len4, len5, intF, isaF, tyOf, isaT, E.isNo, Bool.not_true, Bool.not_false, finM_same]
end Pf

set_option Elab.async false
set_option linter.all false
set_option maxRecDepth 100000
set_option maxHeartbeats 1000000
namespace Pf
open PySem L2 Ev
/-! the text of two shapes tells them -/
def cpI (i : Int) : List Nat := (Int.repr i).toList.map Char.toNat
theorem cpI_inj {i j : Int} (h : cpI i = cpI j) : i = j := by
  have h1 : (Int.repr i).toList = (Int.repr j).toList := by
    have : ∀ {l l' : List Char}, l.map Char.toNat = l'.map Char.toNat → l = l' := by
      intro l
      induction l with
      | nil => intro l' h; cases l' <;> first | rfl | cases h
      | cons c l ih =>
        intro l' h
        cases l' with
        | nil => cases h
        | cons c' l' =>
          simp only [List.map_cons, List.cons.injEq] at h
          rw [ih h.2, Char.toNat_inj.mp h.1]
    exact this h
  exact Int.repr_inj.mp (String.toList_inj.mp h1)
theorem cpI_mem {i : Int} {c : Nat} (h : c ∈ cpI i) : c = 45 ∨ (48 ≤ c ∧ c ≤ 57) := by
  have dig : ∀ n : Nat, ∀ c ∈ (Nat.repr n).toList, 48 ≤ c.toNat ∧ c.toNat ≤ 57 := by
    intro n c hc
    have hc : c ∈ Nat.toDigits 10 n := by simpa [Nat.repr] using hc
    have := Nat.isDigit_of_mem_toDigits (by decide) (by decide) hc
    simp only [Char.isDigit, Bool.and_eq_true, decide_eq_true_eq] at this
    exact this
  unfold cpI at h
  obtain ⟨d, hd, rfl⟩ := List.mem_map.mp h
  cases i with
  | ofNat n => exact .inr (dig n d hd)
  | negSucc n =>
    have hd : d ∈ ("-" ++ Nat.repr (n + 1)).toList := hd
    rw [String.toList_append] at hd
    rcases List.mem_append.mp hd with hd | hd
    · have : d = '-' := by simpa using hd
      exact .inl (by rw [this]; rfl)
    · exact .inr (dig _ d hd)
theorem cut_at {k : Nat} : ∀ {a b r s : List Nat}, k ∉ a → k ∉ b → a ++ k :: r = b ++ k :: s → a = b ∧ r = s
  | [], [], _, _, _, _, h => by simpa using h
  | [], y :: b, _, _, _, hb, h => by
    simp only [List.nil_append, List.cons_append, List.cons.injEq] at h
    exact absurd (by rw [h.1]; exact List.mem_cons_self ..) hb
  | x :: a, [], _, _, ha, _, h => by
    simp only [List.nil_append, List.cons_append, List.cons.injEq] at h
    exact absurd (by rw [← h.1]; exact List.mem_cons_self ..) ha
  | x :: a, y :: b, r, s, ha, hb, h => by
    simp only [List.cons_append, List.cons.injEq] at h
    simp only [List.mem_cons, not_or] at ha hb
    obtain ⟨h1, h2⟩ := cut_at ha.2 hb.2 h.2
    exact ⟨by rw [h.1, h1], h2⟩
theorem no44 (i : Int) : 44 ∉ cpI i := fun h => by have := cpI_mem h; omega
theorem no41 (i : Int) : 41 ∉ cpI i := fun h => by have := cpI_mem h; omega
def pS (x : Sh) : PyData := .tuple [.int x.a, .int x.b, .int x.c]
def cpS (x : Sh) : List Nat := 40 :: (cpI x.a ++ 44 :: 32 :: (cpI x.b ++ 44 :: 32 :: (cpI x.c ++ [41])))
theorem cps_int (i : Int) : ((PyData.int i).shown).cps.toList = cpI i := by
  show (Str.ofString (Int.repr i)).cps.toList = _
  rw [Str.ofString_eq_toList] <;> rfl
theorem t40 : (Str.ofString "(").cps.toList = [40] := by decide +kernel
theorem t41 : (Str.ofString ")").cps.toList = [41] := by decide +kernel
theorem t44 : (Str.ofString ", ").cps.toList = [44, 32] := by decide +kernel
theorem tup3 (a b c : PyData) : ((PyData.tuple [a, b, c]).shown).cps.toList = 40 :: (a.shown.cps.toList ++ 44 :: 32 :: (b.shown.cps.toList ++ 44 :: 32 :: (c.shown.cps.toList ++ [41]))) := by
  have e : (PyData.tuple [a, b, c]).shown = Str.ofString "(" ++ (a.shown ++ Str.ofString ", " ++ (b.shown ++ Str.ofString ", " ++ c.shown)) ++ Str.ofString ")" := rfl
  rw [e]
  simp only [Str.cps_append, Array.toList_append, t40, t41, t44, List.append_assoc, List.cons_append, List.nil_append]
theorem tup2 (a b : PyData) : ((PyData.tuple [a, b]).shown).cps.toList = 40 :: (a.shown.cps.toList ++ 44 :: 32 :: (b.shown.cps.toList ++ [41])) := by
  have e : (PyData.tuple [a, b]).shown = Str.ofString "(" ++ (a.shown ++ Str.ofString ", " ++ b.shown) ++ Str.ofString ")" := rfl
  rw [e]
  simp only [Str.cps_append, Array.toList_append, t40, t41, t44, List.append_assoc, List.cons_append, List.nil_append]
theorem cps_S (x : Sh) : ((pS x).shown).cps.toList = cpS x := by
  unfold pS
  rw [tup3, cps_int, cps_int, cps_int] <;> rfl
theorem cps_2 (x y : Sh) : ((PyData.tuple [pS x, pS y]).shown).cps.toList = 40 :: (cpS x ++ 44 :: 32 :: (cpS y ++ [41])) := by
  rw [tup2, cps_S, cps_S]
theorem cpS_inj {x y : Sh} {r s : List Nat} (h : cpS x ++ r = cpS y ++ s) : x = y ∧ r = s := by
  obtain ⟨a, b, c⟩ := x
  obtain ⟨a', b', c'⟩ := y
  simp only [cpS, List.cons_append, List.append_assoc, List.cons.injEq, true_and, List.nil_append] at h
  obtain ⟨h1, h⟩ := cut_at (no44 _) (no44 _) h
  simp only [List.cons.injEq, true_and] at h
  obtain ⟨h2, h⟩ := cut_at (no44 _) (no44 _) h
  simp only [List.cons.injEq, true_and] at h
  obtain ⟨h3, h⟩ := cut_at (no41 _) (no41 _) h
  exact ⟨by rw [cpI_inj h1, cpI_inj h2, cpI_inj h3], h⟩
theorem shown_inj {x y u v : Sh} (h : (PyData.tuple [pS x, pS y]).shown = (PyData.tuple [pS u, pS v]).shown) : x = u ∧ y = v := by
  have e : (PyData.tuple [pS x, pS y]).shown.cps.toList = (PyData.tuple [pS u, pS v]).shown.cps.toList := by rw [h]
  rw [cps_2, cps_2] at e
  simp only [List.cons.injEq, true_and] at e
  obtain ⟨h1, e⟩ := cpS_inj e
  simp only [List.cons.injEq, true_and] at e
  exact ⟨h1, (cpS_inj e).1⟩
/-- a list's text is no shape's -/
theorem list_ne {a b c : Int} {x u v : Sh} : (PyData.tuple [.list [.int a, .int b, .int c], pS x]).shown ≠ (PyData.tuple [pS u, pS v]).shown := fun h => by
  have e : (PyData.tuple [.list [.int a, .int b, .int c], pS x]).shown.cps.toList = (PyData.tuple [pS u, pS v]).shown.cps.toList := by rw [h]
  rw [tup2, cps_2] at e
  simp only [List.cons.injEq, true_and] at e
  have e2 : (PyData.list [.int a, .int b, .int c]).shown.cps.toList.head? = some 91 := by
    have e3 : (PyData.list [.int a, .int b, .int c]).shown = Str.ofString "[" ++ (PyData.int a).shown ++ Str.ofString ", " ++ (PyData.int b).shown ++ Str.ofString ", " ++ (PyData.int c).shown ++ Str.ofString "]" := rfl
    have t91 : (Str.ofString "[").cps.toList = [91] := by decide +kernel
    rw [e3]
    simp only [Str.cps_append, Array.toList_append, t91]
    simp
  cases q : (PyData.list [.int a, .int b, .int c]).shown.cps.toList with
  | nil => rw [q] at e2; cases e2
  | cons c r =>
    rw [q] at e2 e
    cases e2
    simp [cpS] at e
/-- its length -/
theorem cpI_len {i : Int} (h : b64 i = true) : (cpI i).length ≤ 41 := by
  simp only [b64, Bool.and_eq_true, decide_eq_true_eq] at h
  have key : ∀ n : Nat, n < 18446744073709551617 → (Nat.repr n).toList.length ≤ 40 := by
    intro n hn
    rw [Nat.toList_repr]
    exact (Nat.length_toDigits_le_iff (by decide) (by decide)).mpr (by omega)
  unfold cpI
  rw [List.length_map]
  cases i with
  | ofNat n =>
    have h2 : (n : Int) < 18446744073709551616 := h.2
    exact Nat.le_succ_of_le (key n (by omega))
  | negSucc n =>
    show ("-" ++ Nat.repr (n + 1)).toList.length ≤ 41
    rw [String.toList_append, List.length_append]
    have := key (n + 1) (by omega)
    have e : ("-" : String).toList.length = 1 := rfl
    omega
theorem show_int {i : Int} (h : b64 i = true) : (PyData.int i).showable = true := by
  simp only [b64, Bool.and_eq_true, decide_eq_true_eq] at h
  show decide (i.natAbs.log2 < 1920) = true
  refine decide_eq_true ?_
  by_cases h0 : i.natAbs = 0
  · rw [h0]; decide
  · have := (Nat.log2_lt (k := 70) h0).mpr (by omega)
    omega
theorem size_of {s : Str} {l : List Nat} (e : s.cps.toList = l) (h : l.length ≤ 1000) : sizeB s.length = true := by
  refine Nat.ble_eq_true_of_le ?_
  have : s.length = l.length := by rw [← e, Array.length_toList]; rfl
  omega
theorem cpS_len {x : Sh} (h : Sm x) : (cpS x).length ≤ 200 := by
  have h1 := cpI_len h.a
  have h2 := cpI_len h.b
  have h3 := cpI_len h.c
  simp only [cpS, List.length_cons, List.length_append, List.length_nil]
  omega
theorem show_S {x : Sh} (h : Sm x) : (pS x).showable = true := by
  show ((PyData.int x.a).showable && ((PyData.int x.b).showable && ((PyData.int x.c).showable && true))) = true
  rw [show_int h.a, show_int h.b, show_int h.c] <;> rfl
theorem repr_pair {m : Mem} {x y : Sh} (hx : Sm x) (hy : Sm y) : reprF (.tup [dS x, dS y]) m = .ok (.str (PyData.tuple [pS x, pS y]).shown) m := by
  have e : toPy m 9 (.tup [dS x, dS y]) = some (.tuple [pS x, pS y]) := rfl
  unfold reprF
  rw [e]
  have h1 : (PyData.tuple [pS x, pS y]).showable = true := by
    show ((pS x).showable && ((pS y).showable && true)) = true
    rw [show_S hx, show_S hy] <;> rfl
  have h2 : sizeB (PyData.tuple [pS x, pS y]).shown.length = true := by
    refine size_of (cps_2 x y) ?_
    have := cpS_len hx
    have := cpS_len hy
    simp only [List.length_cons, List.length_append, List.length_nil]
    omega
  show opt (guardO ((PyData.tuple [pS x, pS y]).showable && sizeB (PyData.tuple [pS x, pS y]).shown.length) _) m = _
  rw [h1, h2] <;> rfl
theorem repr_list {m : Mem} {k : Nat} {a b c : Int} {y : Sh} (hm : m.lst k = some [.int a, .int b, .int c]) (ha : b64 a = true) (hb : b64 b = true) (hc : b64 c = true) (hy : Sm y) : reprF (.tup [.ref k, dS y]) m = .ok (.str (PyData.tuple [.list [.int a, .int b, .int c], pS y]).shown) m := by
  have e : toPy m 9 (.tup [.ref k, dS y]) = some (.tuple [.list [.int a, .int b, .int c], pS y]) := by
    show (match omap (toPy m 8) [.ref k, dS y] with | some xs => some (PyData.tuple xs) | none => none) = _
    have e1 : toPy m 8 (.ref k) = some (.list [.int a, .int b, .int c]) := by
      show (match m.lst k with | some ds => (match omap (toPy m 7) ds with | some xs => some (PyData.list xs) | none => none) | none => none) = _
      rw [hm] <;> rfl
    have e2 : toPy m 8 (dS y) = some (pS y) := rfl
    simp only [omap, e1, e2]
  unfold reprF
  rw [e]
  have h1 : (PyData.tuple [.list [.int a, .int b, .int c], pS y]).showable = true := by
    show (((PyData.int a).showable && ((PyData.int b).showable && ((PyData.int c).showable && true))) && ((pS y).showable && true)) = true
    rw [show_int ha, show_int hb, show_int hc, show_S hy] <;> rfl
  have h2 : sizeB (PyData.tuple [.list [.int a, .int b, .int c], pS y]).shown.length = true := by
    have e3 : (PyData.list [.int a, .int b, .int c]).shown = Str.ofString "[" ++ (PyData.int a).shown ++ Str.ofString ", " ++ (PyData.int b).shown ++ Str.ofString ", " ++ (PyData.int c).shown ++ Str.ofString "]" := rfl
    have t91 : (Str.ofString "[").cps.toList = [91] := by decide +kernel
    have t93 : (Str.ofString "]").cps.toList = [93] := by decide +kernel
    refine size_of (tup2 _ _) ?_
    rw [cps_S, e3]
    simp only [Str.cps_append, Array.toList_append, t91, t93, t44, cps_int]
    have := cpI_len ha
    have := cpI_len hb
    have := cpI_len hc
    have := cpS_len hy
    simp only [List.length_cons, List.length_append, List.length_nil]
    omega
  show opt (guardO ((PyData.tuple [.list [.int a, .int b, .int c], pS y]).showable && sizeB (PyData.tuple [.list [.int a, .int b, .int c], pS y]).shown.length) _) m = _
  rw [h1, h2] <;> rfl
/-- equality of shapes -/
def eqS (x y : Sh) : Bool := decide (x.a = y.a) && (decide (x.b = y.b) && decide (x.c = y.c))
theorem eqS_iff (x y : Sh) : eqS x y = true ↔ x = y := by
  obtain ⟨a, b, c⟩ := x
  obtain ⟨a', b', c'⟩ := y
  simp [eqS]
theorem deq_S {m : Mem} (x y : Sh) : deq m (dS x) (dS y) = some (eqS x y) := by
  have e : deq m (dS x) (dS y) = some (PyData.eqv (pS x) (pS y)) := rfl
  rw [e]
  congr 1
  show ((x.a == y.a) && ((x.b == y.b) && ((x.c == y.c) && true))) = _
  rw [Bool.and_true]
  rfl
theorem deq_2 {m : Mem} (x y u v : Sh) : deq m (.tup [dS x, dS y]) (.tup [dS u, dS v]) = some (eqS x u && eqS y v) := by
  have e : deq m (.tup [dS x, dS y]) (.tup [dS u, dS v]) = some (PyData.eqv (.tuple [pS x, pS y]) (.tuple [pS u, pS v])) := rfl
  have e1 : PyData.eqv (pS x) (pS u) = eqS x u := Option.some.inj (deq_S (m := m) x u)
  have e2 : PyData.eqv (pS y) (pS v) = eqS y v := Option.some.inj (deq_S (m := m) y v)
  rw [e]
  congr 1
  show (PyData.eqv (pS x) (pS u) && (PyData.eqv (pS y) (pS v) && true)) = _
  rw [e1, e2, Bool.and_true]
/-- texts compared -/
theorem strOk_of {s : Str} {l : List Nat} (e : s.cps.toList = l) (h : ∀ c ∈ l, c < 1114112) : PyData.strOk s = true := by
  unfold PyData.strOk
  rw [← Array.all_toList, e, List.all_eq_true]
  exact fun c hc => decide_eq_true (h c hc)
theorem cpI_lt {i : Int} {c : Nat} (h : c ∈ cpI i) : c < 1114112 := by have := cpI_mem h; omega
theorem cpS_lt {x : Sh} {c : Nat} (h : c ∈ cpS x) : c < 1114112 := by
  simp only [cpS, List.mem_cons, List.mem_append, List.not_mem_nil, or_false] at h
  rcases h with h | h | h | h | h | h | h | h | h
  all_goals first | omega | exact cpI_lt h
theorem ok_2 (x y : Sh) : PyData.strOk (PyData.tuple [pS x, pS y]).shown = true := by
  refine strOk_of (cps_2 x y) fun c hc => ?_
  simp only [List.mem_cons, List.mem_append, List.not_mem_nil, or_false] at hc
  rcases hc with h | h | h | h | h | h
  all_goals first | omega | exact cpS_lt h
theorem ok_l (a b c : Int) (y : Sh) : PyData.strOk (PyData.tuple [.list [.int a, .int b, .int c], pS y]).shown = true := by
  have e3 : (PyData.list [.int a, .int b, .int c]).shown = Str.ofString "[" ++ (PyData.int a).shown ++ Str.ofString ", " ++ (PyData.int b).shown ++ Str.ofString ", " ++ (PyData.int c).shown ++ Str.ofString "]" := rfl
  have t91 : (Str.ofString "[").cps.toList = [91] := by decide +kernel
  have t93 : (Str.ofString "]").cps.toList = [93] := by decide +kernel
  refine strOk_of (tup2 _ _) fun k hk => ?_
  rw [cps_S, e3] at hk
  simp only [Str.cps_append, Array.toList_append, t91, t93, t44, cps_int, List.mem_cons, List.mem_append, List.not_mem_nil, or_false] at hk
  rcases hk with h | h | h | h | h | h
  · omega
  · rcases h with (((((h | h) | h) | h) | h) | h) | h
    all_goals first | omega | exact cpI_lt h | (rcases h with h | h <;> omega)
  · omega
  · omega
  · exact cpS_lt h
  · omega
theorem eqM_str {m : Mem} {a b : Str} (ha : PyData.strOk a = true) (hb : PyData.strOk b = true) : cmpM .eq (.str a) (.str b) m = .ok (.bl (decide (a = b))) m := by
  have e : cmpM .eq (.str a) (.str b) m = opt ((deq m (.str a) (.str b)).map D.bl) m := rfl
  have e1 : toPy m 9 (.str a) = some (.str a) := by
    show (match PyData.strOk a with | true => some (PyData.str a) | false => none) = _
    rw [ha]
  have e2 : toPy m 9 (.str b) = some (.str b) := by
    show (match PyData.strOk b with | true => some (PyData.str b) | false => none) = _
    rw [hb]
  have e3 : PyData.eqv (.str a) (.str b) = decide (a = b) := by
    show (a == b) = _
    rw [Bool.eq_iff_iff, beq_iff_eq, decide_eq_true_eq]
  have e4 : deq m (.str a) (.str b) = some (decide (a = b)) := by
    unfold deq
    rw [e1, e2, ← e3]
  rw [e, e4]
  rfl
theorem eqM_shown {m : Mem} (x y u v : Sh) : cmpM .eq (.str (PyData.tuple [pS x, pS y]).shown) (.str (PyData.tuple [pS u, pS v]).shown) m = .ok (.bl (eqS x u && eqS y v)) m := by
  have e : decide ((PyData.tuple [pS x, pS y]).shown = (PyData.tuple [pS u, pS v]).shown) = (eqS x u && eqS y v) := by
    rw [Bool.eq_iff_iff, Bool.and_eq_true, decide_eq_true_eq, eqS_iff, eqS_iff]
    constructor
    · exact shown_inj
    · intro h; rw [h.1, h.2]
  rw [eqM_str (ok_2 x y) (ok_2 u v), e]
theorem eqM_list {m : Mem} (a b c : Int) (y u v : Sh) : cmpM .eq (.str (PyData.tuple [.list [.int a, .int b, .int c], pS y]).shown) (.str (PyData.tuple [pS u, pS v]).shown) m = .ok (.bl false) m := by
  rw [eqM_str (ok_l a b c y) (ok_2 u v), decide_eq_false list_ne]
end Pf

set_option Elab.async false
set_option linter.all false
set_option maxRecDepth 100000
set_option maxHeartbeats 1000000
namespace Pf
open PySem L2 Ev
/-- x is led to x' by t -/
structure Rd (x x' : Sh) (t : Tb) : Prop where
  inv : Inv0 x x' t
  red : isRed x' = true
  run : ∀ n m, run T (n + 2) 26 [dS x] m = .ok (.tup [dS x', dT t]) m ∧ run T (n + 2) 8 [dS x] m = .ok (.tup [dS x', dT t]) m
theorem rd_ex (x : Sh) (h : okS x = true) : ∃ x' t, Rd x x' t := by
  obtain ⟨x', t, a, b, c⟩ := red_ex x h
  exact ⟨x', t, a, b, c⟩
theorem okS_sm {x : Sh} (h : okS x = true) : Sm x := by
  obtain ⟨h1, h2, h3, _, _⟩ := okS_a h
  exact ⟨inE_b h1, inE_b h2, inE_b h3⟩
theorem Rd.sm {x x' : Sh} {t : Tb} (r : Rd x x' t) : Sm x' := by
  have i := r.inv
  have hc := c_pos i.a (by rw [i.disc]; exact (okS_a i.ok).2.2.2.2)
  have := i.a
  have := i.a2
  have := i.b
  have := i.c
  refine ⟨?_, ?_, ?_⟩ <;> (simp only [b64, Bool.and_eq_true, decide_eq_true_eq]; omega)
section
variable {x x' y y' : Sh} {t u : Tb} {n : Nat} {m : Mem}
theorem eqM_S : cmpM .eq (dS x) (dS y) m = .ok (.bl (eqS x y)) m := by
  have e : cmpM .eq (dS x) (dS y) m = opt ((deq m (dS x) (dS y)).map D.bl) m := rfl
  rw [e, deq_S] <;> rfl
theorem neM_S : cmpM .ne (dS x) (dS y) m = .ok (.bl (!eqS x y)) m := by
  have e : cmpM .ne (dS x) (dS y) m = opt (((deq m (dS x) (dS y)).map (!·)).map D.bl) m := rfl
  rw [e, deq_S] <;> rfl
theorem eqM_2 {v w : Sh} : cmpM .eq (.tup [dS x, dS y]) (.tup [dS v, dS w]) m = .ok (.bl (eqS x v && eqS y w)) m := by
  have e : cmpM .eq (.tup [dS x, dS y]) (.tup [dS v, dS w]) m = opt ((deq m (.tup [dS x, dS y]) (.tup [dS v, dS w])).map D.bl) m := rfl
  rw [e, deq_2] <;> rfl
theorem preduced_run (w : WF m) (r : Rd x x' t) : run T (n + 5) 13 [dS x] m = .ok (dS x') m := by
  rw [run_at (f := e13.fn) rfl rfl]
  simp only [tdS_same, tdS_put, ix30, ix31, ix32, ix40, ix41, ix42, ix43, ix20, ix21, Ent.fn, startR, denS, den, asV, asS, asT, consM, lstM, bin2, negM, testM, sel_t, sel_f, selAnd, selOr, selNot, truth_bl, iteM, bandM, borM, Ev.notM, chainM, callM, bltM, partM, partD, sliceM, rng1M, rng2M, tnilM, tconsM, tnmM, noX, Out.bind, Out.st, opt, okk, getR, List.map, List.replicate, List.append, List.length, List.set, Nat.sub, HAppend.hAppend, Append.append, addF, subF, ltM, leM, gtM, geM, eqM, neM, fin, bltF, one, two, onSeq, onInt, onLst, onSome, seqOf, len0, len1, len2, len3, len4, len5, intF, isaF, tyOf, isaT, E.isNo, Bool.not_true, Bool.not_false, e13, require_run _ w _ r.inv.ok, (r.run _ _).2, finM_same]
theorem ptable_run (w : WF m) (r : Rd x x' t) : run T (n + 5) 14 [dS x] m = .ok (dT t) m := by
  rw [run_at (f := e14.fn) rfl rfl]
  simp only [tdS_same, tdS_put, ix30, ix31, ix32, ix40, ix41, ix42, ix43, ix20, ix21, Ent.fn, startR, denS, den, asV, asS, asT, consM, lstM, bin2, negM, testM, sel_t, sel_f, selAnd, selOr, selNot, truth_bl, iteM, bandM, borM, Ev.notM, chainM, callM, bltM, partM, partD, sliceM, rng1M, rng2M, tnilM, tconsM, tnmM, noX, Out.bind, Out.st, opt, okk, getR, List.map, List.replicate, List.append, List.length, List.set, Nat.sub, HAppend.hAppend, Append.append, addF, subF, ltM, leM, gtM, geM, eqM, neM, fin, bltF, one, two, onSeq, onInt, onLst, onSome, seqOf, len0, len1, len2, len3, len4, len5, intF, isaF, tyOf, isaT, E.isNo, Bool.not_true, Bool.not_false, e14, require_run _ w _ r.inv.ok, (r.run _ _).2, finM_same]
theorem areled_run (w : WF m) (r : Rd x x' t) (q : Rd y y' u) : run T (n + 5) 15 [dS x, dS y] m = .ok (.bl (eqS x' y')) m := by
  rw [run_at (f := e15.fn) rfl rfl]
  simp only [tdS_same, tdS_put, ix30, ix31, ix32, ix40, ix41, ix42, ix43, ix20, ix21, Ent.fn, startR, denS, den, asV, asS, asT, consM, lstM, bin2, negM, testM, sel_t, sel_f, selAnd, selOr, selNot, truth_bl, iteM, bandM, borM, Ev.notM, chainM, callM, bltM, partM, partD, sliceM, rng1M, rng2M, tnilM, tconsM, tnmM, noX, Out.bind, Out.st, opt, okk, getR, List.map, List.replicate, List.append, List.length, List.set, Nat.sub, HAppend.hAppend, Append.append, addF, subF, ltM, leM, gtM, geM, eqM, neM, fin, bltF, one, two, onSeq, onInt, onLst, onSome, seqOf, len0, len1, len2, len3, len4, len5, intF, isaF, tyOf, isaT, E.isNo, Bool.not_true, Bool.not_false, e15, require_run _ w _ r.inv.ok, require_run _ w _ q.inv.ok, (r.run _ _).2, (q.run _ _).2, finM_same, eqM_S]
def told (x' y' : Sh) (t u : Tb) : D := match eqS x' y' with
  | true => .tup [.str "by", dT (tms t (backT u))]
  | false => .tup [.str "apart", dS x', dS y']
theorem back_tm {u : Tb} (h : Tm u) : Tm (backT u) := by
  have neg : ∀ i : Int, b64 i = true → b64 (0 - i) = true := fun i h => by
    simp only [b64, Bool.and_eq_true, decide_eq_true_eq] at h ⊢
    omega
  exact ⟨h.s, neg _ h.q, neg _ h.r, h.p⟩
theorem paper_run (w : WF m) (r : Rd x x' t) (q : Rd y y' u) : run T (n + 5) 16 [dS x, dS y] m = .ok (told x' y' t u) m := by
  rw [run_at (f := e16.fn) rfl rfl]
  simp only [tdS_same, tdS_put, ix30, ix31, ix32, ix40, ix41, ix42, ix43, ix20, ix21, Ent.fn, startR, denS, den, asV, asS, asT, consM, lstM, bin2, negM, testM, sel_t, sel_f, selAnd, selOr, selNot, truth_bl, iteM, bandM, borM, Ev.notM, chainM, callM, bltM, partM, partD, sliceM, rng1M, rng2M, tnilM, tconsM, tnmM, noX, Out.bind, Out.st, opt, okk, getR, List.map, List.replicate, List.append, List.length, List.set, Nat.sub, HAppend.hAppend, Append.append, addF, subF, ltM, leM, gtM, geM, eqM, neM, fin, bltF, one, two, onSeq, onInt, onLst, onSome, seqOf, len0, len1, len2, len3, len4, len5, intF, isaF, tyOf, isaT, E.isNo, Bool.not_true, Bool.not_false, e16, require_run _ w _ r.inv.ok, require_run _ w _ q.inv.ok, (r.run _ _).2, (q.run _ _).2, neM_S]
  unfold told
  cases eqS x' y' with
  | true => simp only [tdS_same, tdS_put, ix30, ix31, ix32, ix40, ix41, ix42, ix43, ix20, ix21, Ent.fn, startR, denS, den, asV, asS, asT, consM, lstM, bin2, negM, testM, sel_t, sel_f, selAnd, selOr, selNot, truth_bl, iteM, bandM, borM, Ev.notM, chainM, callM, bltM, partM, partD, sliceM, rng1M, rng2M, tnilM, tconsM, tnmM, noX, Out.bind, Out.st, opt, okk, getR, List.map, List.replicate, List.append, List.length, List.set, Nat.sub, HAppend.hAppend, Append.append, addF, subF, ltM, leM, gtM, geM, eqM, neM, fin, bltF, one, two, onSeq, onInt, onLst, onSome, seqOf, len0, len1, len2, len3, len4, len5, intF, isaF, tyOf, isaT, E.isNo, Bool.not_true, Bool.not_false, back_run, tms_run _ _ t _ (back_tm q.inv.tm), finM_same]
  | false => simp only [tdS_same, tdS_put, ix30, ix31, ix32, ix40, ix41, ix42, ix43, ix20, ix21, Ent.fn, startR, denS, den, asV, asS, asT, consM, lstM, bin2, negM, testM, sel_t, sel_f, selAnd, selOr, selNot, truth_bl, iteM, bandM, borM, Ev.notM, chainM, callM, bltM, partM, partD, sliceM, rng1M, rng2M, tnilM, tconsM, tnmM, noX, Out.bind, Out.st, opt, okk, getR, List.map, List.replicate, List.append, List.length, List.set, Nat.sub, HAppend.hAppend, Append.append, addF, subF, ltM, leM, gtM, geM, eqM, neM, fin, bltF, one, two, onSeq, onInt, onLst, onSome, seqOf, len0, len1, len2, len3, len4, len5, intF, isaF, tyOf, isaT, E.isNo, Bool.not_true, Bool.not_false, finM_same]
/-! tables -/
theorem table_run (w : WF m) (ht : Tm t) : run T (n + 3) 18 [dT t] m = .ok (.bl (decide (det t = 1))) m := by
  rw [run_at (f := e18.fn) rfl rfl]
  simp only [tdS_same, tdS_put, ix30, ix31, ix32, ix40, ix41, ix42, ix43, ix20, ix21, Ent.fn, startR, denS, den, asV, asS, asT, consM, lstM, bin2, negM, testM, sel_t, sel_f, selAnd, selOr, selNot, truth_bl, iteM, bandM, borM, Ev.notM, chainM, callM, bltM, partM, partD, sliceM, rng1M, rng2M, tnilM, tconsM, tnmM, noX, Out.bind, Out.st, opt, okk, getR, List.map, List.replicate, List.append, List.length, List.set, Nat.sub, HAppend.hAppend, Append.append, addF, subF, ltM, leM, gtM, geM, eqM, neM, fin, bltF, one, two, onSeq, onInt, onLst, onSome, seqOf, len0, len1, len2, len3, len4, len5, intF, isaF, tyOf, isaT, E.isNo, Bool.not_true, Bool.not_false, e18, dT, compM, srcOf, onSrc, compL, wipeR, int_run, decide_true]
  rw [newL_ok rfl]
  have e1 : ∀ o, tdS m.nx [some (.tup [.int t.p, .int t.q, .int t.r, .int t.s]), none] (m.new o) = m := fun o => tdS_new w rfl
  simp only [tdS_same, tdS_put, ix30, ix31, ix32, ix40, ix41, ix42, ix43, ix20, ix21, Ent.fn, startR, denS, den, asV, asS, asT, consM, lstM, bin2, negM, testM, sel_t, sel_f, selAnd, selOr, selNot, truth_bl, iteM, bandM, borM, Ev.notM, chainM, callM, bltM, partM, partD, sliceM, rng1M, rng2M, tnilM, tconsM, tnmM, noX, Out.bind, Out.st, opt, okk, getR, List.map, List.replicate, List.append, List.length, List.set, Nat.sub, HAppend.hAppend, Append.append, addF, subF, ltM, leM, gtM, geM, eqM, neM, fin, bltF, one, two, onSeq, onInt, onLst, onSome, seqOf, len0, len1, len2, len3, len4, len5, intF, isaF, tyOf, isaT, E.isNo, Bool.not_true, Bool.not_false, lst_new, List.reverse_cons, List.reverse_nil, boolsOf, List.all, id_eq, Bool.and_true, mulF_l, ht.p, ht.q, e1, finM_same]
  rfl
theorem deq_nil {k k2 : Nat} {m : Mem} (h : m.lst k = some []) (h2 : m.lst k2 = some []) : deq m (.ref k) (.ref k2) = some true := by
  have e1 : toPy m 9 (.ref k) = some (.list []) := by
    show (match m.lst k with | some ds => (match omap (toPy m 8) ds with | some xs => some (PyData.list xs) | none => none) | none => none) = _
    rw [h] <;> rfl
  have e2 : toPy m 9 (.ref k2) = some (.list []) := by
    show (match m.lst k2 with | some ds => (match omap (toPy m 8) ds with | some xs => some (PyData.list xs) | none => none) | none => none) = _
    rw [h2] <;> rfl
  unfold deq
  rw [e1, e2] <;> rfl
theorem neM_nil {k k2 : Nat} {m : Mem} (h : m.lst k = some []) (h2 : m.lst k2 = some []) : cmpM .ne (.ref k) (.ref k2) m = .ok (.bl false) m := by
  have e : cmpM .ne (.ref k) (.ref k2) m = opt (((deq m (.ref k) (.ref k2)).map (!·)).map D.bl) m := rfl
  rw [e, deq_nil h h2] <;> rfl
theorem finM_new2 {o o' : O} {d : D} (w : WF m) (h : lowD m.nx d = true) : finM m.nx d ((m.new o).new o') = .ok d m :=
  finM_ext (l := [(m.nx + 1, o'), (m.nx, o)]) (nx := m.nx + 1 + 1) w (fun p hp => by
    rcases List.mem_cons.mp hp with rfl | hp
    · exact Nat.le_succ _
    · rcases List.mem_cons.mp hp with rfl | hp
      · exact Nat.le_refl _
      · cases hp) (by omega) h
theorem tdS_new2 {o o' : O} {ρ : Rho} (w : WF m) (h : lowAll m.nx ρ = true) : tdS m.nx ρ ((m.new o).new o') = m :=
  tdS_ext (l := [(m.nx + 1, o'), (m.nx, o)]) (nx := m.nx + 1 + 1) w (fun p hp => by
    rcases List.mem_cons.mp hp with rfl | hp
    · exact Nat.le_succ _
    · rcases List.mem_cons.mp hp with rfl | hp
      · exact Nat.le_refl _
      · cases hp) (by omega) h
theorem two_nil : cmpM .ne (.ref m.nx) (.ref (m.new (.lst [])).nx) ((m.new (.lst [])).new (.lst [])) = .ok (.bl false) ((m.new (.lst [])).new (.lst [])) :=
  neM_nil (by rw [lst_old (by rw [nx_new]; omega), lst_new]) lst_new
theorem ltable_run (w : WF m) (ht : Tm t) : run T (n + 3) 29 [dT t] m = .ok (.bl (decide (det t = 1))) m := by
  rw [run_at (f := e29.fn) rfl rfl]
  simp only [tdS_same, tdS_put, ix30, ix31, ix32, ix40, ix41, ix42, ix43, ix20, ix21, Ent.fn, startR, denS, den, asV, asS, asT, consM, lstM, bin2, negM, testM, sel_t, sel_f, selAnd, selOr, selNot, truth_bl, iteM, bandM, borM, Ev.notM, chainM, callM, bltM, partM, partD, sliceM, rng1M, rng2M, tnilM, tconsM, tnmM, noX, Out.bind, Out.st, opt, okk, getR, List.map, List.replicate, List.append, List.length, List.set, Nat.sub, HAppend.hAppend, Append.append, addF, subF, ltM, leM, gtM, geM, eqM, neM, fin, bltF, one, two, onSeq, onInt, onLst, onSome, seqOf, len0, len1, len2, len3, len4, len5, intF, isaF, tyOf, isaT, E.isNo, Bool.not_true, Bool.not_false, e29, dT, compM, srcOf, onSrc, compL, wipeR, lint_run, decide_true]
  rw [newL_ok rfl]
  simp only [tdS_same, tdS_put, ix30, ix31, ix32, ix40, ix41, ix42, ix43, ix20, ix21, Ent.fn, startR, denS, den, asV, asS, asT, consM, lstM, bin2, negM, testM, sel_t, sel_f, selAnd, selOr, selNot, truth_bl, iteM, bandM, borM, Ev.notM, chainM, callM, bltM, partM, partD, sliceM, rng1M, rng2M, tnilM, tconsM, tnmM, noX, Out.bind, Out.st, opt, okk, getR, List.map, List.replicate, List.append, List.length, List.set, Nat.sub, HAppend.hAppend, Append.append, addF, subF, ltM, leM, gtM, geM, eqM, neM, fin, bltF, one, two, onSeq, onInt, onLst, onSome, seqOf, len0, len1, len2, len3, len4, len5, intF, isaF, tyOf, isaT, E.isNo, Bool.not_true, Bool.not_false, List.reverse_nil]
  rw [newL_ok rfl]
  have e1 : ∀ o o', tdS m.nx [some (.tup [.int t.p, .int t.q, .int t.r, .int t.s]), none] ((m.new o).new o') = m := fun o o' => tdS_new2 w rfl
  simp only [tdS_same, tdS_put, ix30, ix31, ix32, ix40, ix41, ix42, ix43, ix20, ix21, Ent.fn, startR, denS, den, asV, asS, asT, consM, lstM, bin2, negM, testM, sel_t, sel_f, selAnd, selOr, selNot, truth_bl, iteM, bandM, borM, Ev.notM, chainM, callM, bltM, partM, partD, sliceM, rng1M, rng2M, tnilM, tconsM, tnmM, noX, Out.bind, Out.st, opt, okk, getR, List.map, List.replicate, List.append, List.length, List.set, Nat.sub, HAppend.hAppend, Append.append, addF, subF, ltM, leM, gtM, geM, eqM, neM, fin, bltF, one, two, onSeq, onInt, onLst, onSome, seqOf, len0, len1, len2, len3, len4, len5, intF, isaF, tyOf, isaT, E.isNo, Bool.not_true, Bool.not_false, List.reverse_nil, two_nil, mulF_l, ht.p, ht.q, e1, finM_same]
  rfl
end
end Pf

set_option Elab.async false
set_option linter.all false
set_option maxRecDepth 100000
set_option maxHeartbeats 1000000
namespace Pf
open PySem L2 Ev
/-! papers judged: both answer the same -/
section
variable {m : Mem} {d : D} {ds : List D}
theorem eq_nil0 : cmpM .eq (.tup []) (.tup []) m = .ok (.bl true) m := rfl
theorem eq_nil1 (h : (toPy m 9 (.tup (d :: ds))).isSome = true) : cmpM .eq (.tup (d :: ds)) (.tup []) m = .ok (.bl false) m := by
  have e : cmpM .eq (.tup (d :: ds)) (.tup []) m = opt ((deq m (.tup (d :: ds)) (.tup [])).map D.bl) m := rfl
  rw [e]
  cases q : toPy m 9 (.tup (d :: ds)) with
  | none => rw [q] at h; cases h
  | some p =>
    have q1 : (match omap (toPy m 8) (d :: ds) with | some xs => some (PyData.tuple xs) | none => none) = some p := q
    cases q2 : omap (toPy m 8) (d :: ds) with
    | none => rw [q2] at q1; cases q1
    | some xs =>
      rw [q2] at q1
      cases q1
      obtain ⟨b, bs, _, _, rfl⟩ := omap_cons q2
      unfold deq
      rw [q] <;> rfl
theorem by_by : cmpM .eq (.str "by") (.str "by") m = .ok (.bl true) m := by kernel_rfl
theorem ap_by : cmpM .eq (.str "apart") (.str "by") m = .ok (.bl false) m := by kernel_rfl
theorem ap_ap : cmpM .ne (.str "apart") (.str "apart") m = .ok (.bl false) m := by kernel_rfl
theorem ix10 : ixF (.tup [d]) (.int 0) m = .ok d m := rfl
end
section
variable {x x' y y' : Sh} {t u : Tb} {m : Mem}
def Same (x y : Sh) (m : Mem) (v : D) (b : Bool) : Prop := ∀ n, run T (n + 6) 17 [dS x, dS y, v] m = .ok (.bl b) m ∧ run T (n + 6) 30 [dS x, dS y, v] m = .ok (.bl b) m
theorem same_non (w : WF m) (r : Rd x x' t) (q : Rd y y' u) : Same x y m .non false := fun n => by
  constructor
  · rw [run_at (f := e17.fn) rfl rfl]
    simp only [tdS_same, tdS_put, ix30, ix31, ix32, ix40, ix41, ix42, ix43, ix20, ix21, Ent.fn, startR, denS, den, asV, asS, asT, consM, lstM, bin2, negM, testM, sel_t, sel_f, selAnd, selOr, selNot, truth_bl, iteM, bandM, borM, Ev.notM, chainM, callM, bltM, partM, partD, sliceM, rng1M, rng2M, tnilM, tconsM, tnmM, noX, Out.bind, Out.st, opt, okk, getR, List.map, List.replicate, List.append, List.length, List.set, Nat.sub, HAppend.hAppend, Append.append, addF, subF, ltM, leM, gtM, geM, eqM, neM, fin, bltF, one, two, onSeq, onInt, onLst, onSome, seqOf, len0, len1, len2, len3, len4, len5, intF, isaF, tyOf, isaT, E.isNo, Bool.not_true, Bool.not_false, e17, require_run _ w _ r.inv.ok, require_run _ w _ q.inv.ok, finM_same]
  · rw [run_at (f := e30.fn) rfl rfl]
    simp only [tdS_same, tdS_put, ix30, ix31, ix32, ix40, ix41, ix42, ix43, ix20, ix21, Ent.fn, startR, denS, den, asV, asS, asT, consM, lstM, bin2, negM, testM, sel_t, sel_f, selAnd, selOr, selNot, truth_bl, iteM, bandM, borM, Ev.notM, chainM, callM, bltM, partM, partD, sliceM, rng1M, rng2M, tnilM, tconsM, tnmM, noX, Out.bind, Out.st, opt, okk, getR, List.map, List.replicate, List.append, List.length, List.set, Nat.sub, HAppend.hAppend, Append.append, addF, subF, ltM, leM, gtM, geM, eqM, neM, fin, bltF, one, two, onSeq, onInt, onLst, onSome, seqOf, len0, len1, len2, len3, len4, len5, intF, isaF, tyOf, isaT, E.isNo, Bool.not_true, Bool.not_false, e30, finM_same]
theorem same_str {s : Str} (w : WF m) (r : Rd x x' t) (q : Rd y y' u) : Same x y m (.str s) false := fun n => by
  constructor
  · rw [run_at (f := e17.fn) rfl rfl]
    simp only [tdS_same, tdS_put, ix30, ix31, ix32, ix40, ix41, ix42, ix43, ix20, ix21, Ent.fn, startR, denS, den, asV, asS, asT, consM, lstM, bin2, negM, testM, sel_t, sel_f, selAnd, selOr, selNot, truth_bl, iteM, bandM, borM, Ev.notM, chainM, callM, bltM, partM, partD, sliceM, rng1M, rng2M, tnilM, tconsM, tnmM, noX, Out.bind, Out.st, opt, okk, getR, List.map, List.replicate, List.append, List.length, List.set, Nat.sub, HAppend.hAppend, Append.append, addF, subF, ltM, leM, gtM, geM, eqM, neM, fin, bltF, one, two, onSeq, onInt, onLst, onSome, seqOf, len0, len1, len2, len3, len4, len5, intF, isaF, tyOf, isaT, E.isNo, Bool.not_true, Bool.not_false, e17, require_run _ w _ r.inv.ok, require_run _ w _ q.inv.ok, finM_same]
  · rw [run_at (f := e30.fn) rfl rfl]
    simp only [tdS_same, tdS_put, ix30, ix31, ix32, ix40, ix41, ix42, ix43, ix20, ix21, Ent.fn, startR, denS, den, asV, asS, asT, consM, lstM, bin2, negM, testM, sel_t, sel_f, selAnd, selOr, selNot, truth_bl, iteM, bandM, borM, Ev.notM, chainM, callM, bltM, partM, partD, sliceM, rng1M, rng2M, tnilM, tconsM, tnmM, noX, Out.bind, Out.st, opt, okk, getR, List.map, List.replicate, List.append, List.length, List.set, Nat.sub, HAppend.hAppend, Append.append, addF, subF, ltM, leM, gtM, geM, eqM, neM, fin, bltF, one, two, onSeq, onInt, onLst, onSome, seqOf, len0, len1, len2, len3, len4, len5, intF, isaF, tyOf, isaT, E.isNo, Bool.not_true, Bool.not_false, e30, finM_same]
theorem same_ref {k : Nat} {ds : List D} (h : m.lst k = some ds) (w : WF m) (r : Rd x x' t) (q : Rd y y' u) : Same x y m (.ref k) false := fun n => by
  constructor
  · rw [run_at (f := e17.fn) rfl rfl]
    simp only [tdS_same, tdS_put, ix30, ix31, ix32, ix40, ix41, ix42, ix43, ix20, ix21, Ent.fn, startR, denS, den, asV, asS, asT, consM, lstM, bin2, negM, testM, sel_t, sel_f, selAnd, selOr, selNot, truth_bl, iteM, bandM, borM, Ev.notM, chainM, callM, bltM, partM, partD, sliceM, rng1M, rng2M, tnilM, tconsM, tnmM, noX, Out.bind, Out.st, opt, okk, getR, List.map, List.replicate, List.append, List.length, List.set, Nat.sub, HAppend.hAppend, Append.append, addF, subF, ltM, leM, gtM, geM, eqM, neM, fin, bltF, one, two, onSeq, onInt, onLst, onSome, seqOf, len0, len1, len2, len3, len4, len5, intF, isaF, tyOf, isaT, E.isNo, Bool.not_true, Bool.not_false, e17, require_run _ w _ r.inv.ok, require_run _ w _ q.inv.ok, finM_same, h]
  · rw [run_at (f := e30.fn) rfl rfl]
    simp only [tdS_same, tdS_put, ix30, ix31, ix32, ix40, ix41, ix42, ix43, ix20, ix21, Ent.fn, startR, denS, den, asV, asS, asT, consM, lstM, bin2, negM, testM, sel_t, sel_f, selAnd, selOr, selNot, truth_bl, iteM, bandM, borM, Ev.notM, chainM, callM, bltM, partM, partD, sliceM, rng1M, rng2M, tnilM, tconsM, tnmM, noX, Out.bind, Out.st, opt, okk, getR, List.map, List.replicate, List.append, List.length, List.set, Nat.sub, HAppend.hAppend, Append.append, addF, subF, ltM, leM, gtM, geM, eqM, neM, fin, bltF, one, two, onSeq, onInt, onLst, onSome, seqOf, len0, len1, len2, len3, len4, len5, intF, isaF, tyOf, isaT, E.isNo, Bool.not_true, Bool.not_false, e30, finM_same, h]
theorem same_nil (w : WF m) (r : Rd x x' t) (q : Rd y y' u) : Same x y m (.tup []) false := fun n => by
  constructor
  · rw [run_at (f := e17.fn) rfl rfl]
    simp only [tdS_same, tdS_put, ix30, ix31, ix32, ix40, ix41, ix42, ix43, ix20, ix21, Ent.fn, startR, denS, den, asV, asS, asT, consM, lstM, bin2, negM, testM, sel_t, sel_f, selAnd, selOr, selNot, truth_bl, iteM, bandM, borM, Ev.notM, chainM, callM, bltM, partM, partD, sliceM, rng1M, rng2M, tnilM, tconsM, tnmM, noX, Out.bind, Out.st, opt, okk, getR, List.map, List.replicate, List.append, List.length, List.set, Nat.sub, HAppend.hAppend, Append.append, addF, subF, ltM, leM, gtM, geM, eqM, neM, fin, bltF, one, two, onSeq, onInt, onLst, onSome, seqOf, len0, len1, len2, len3, len4, len5, intF, isaF, tyOf, isaT, E.isNo, Bool.not_true, Bool.not_false, e17, require_run _ w _ r.inv.ok, require_run _ w _ q.inv.ok, finM_same, eq_nil0]
  · rw [run_at (f := e30.fn) rfl rfl]
    simp only [tdS_same, tdS_put, ix30, ix31, ix32, ix40, ix41, ix42, ix43, ix20, ix21, Ent.fn, startR, denS, den, asV, asS, asT, consM, lstM, bin2, negM, testM, sel_t, sel_f, selAnd, selOr, selNot, truth_bl, iteM, bandM, borM, Ev.notM, chainM, callM, bltM, partM, partD, sliceM, rng1M, rng2M, tnilM, tconsM, tnmM, noX, Out.bind, Out.st, opt, okk, getR, List.map, List.replicate, List.append, List.length, List.set, Nat.sub, HAppend.hAppend, Append.append, addF, subF, ltM, leM, gtM, geM, eqM, neM, fin, bltF, one, two, onSeq, onInt, onLst, onSome, seqOf, len0, len1, len2, len3, len4, len5, intF, isaF, tyOf, isaT, E.isNo, Bool.not_true, Bool.not_false, e30, finM_same, eq_nil0]
theorem same_by1 (w : WF m) (r : Rd x x' t) (q : Rd y y' u) : Same x y m (.tup [.str "by"]) false := fun n => by
  have h : (toPy m 9 (.tup [.str "by"])).isSome = true := by kernel_rfl
  constructor
  · rw [run_at (f := e17.fn) rfl rfl]
    simp only [tdS_same, tdS_put, ix30, ix31, ix32, ix40, ix41, ix42, ix43, ix20, ix21, Ent.fn, startR, denS, den, asV, asS, asT, consM, lstM, bin2, negM, testM, sel_t, sel_f, selAnd, selOr, selNot, truth_bl, iteM, bandM, borM, Ev.notM, chainM, callM, bltM, partM, partD, sliceM, rng1M, rng2M, tnilM, tconsM, tnmM, noX, Out.bind, Out.st, opt, okk, getR, List.map, List.replicate, List.append, List.length, List.set, Nat.sub, HAppend.hAppend, Append.append, addF, subF, ltM, leM, gtM, geM, eqM, neM, fin, bltF, one, two, onSeq, onInt, onLst, onSome, seqOf, len0, len1, len2, len3, len4, len5, intF, isaF, tyOf, isaT, E.isNo, Bool.not_true, Bool.not_false, e17, require_run _ w _ r.inv.ok, require_run _ w _ q.inv.ok, finM_same, eq_nil1 h, ix10, by_by, decide_eq_false (show ¬ ((1 : Int) = 2) by decide)]
  · rw [run_at (f := e30.fn) rfl rfl]
    simp only [tdS_same, tdS_put, ix30, ix31, ix32, ix40, ix41, ix42, ix43, ix20, ix21, Ent.fn, startR, denS, den, asV, asS, asT, consM, lstM, bin2, negM, testM, sel_t, sel_f, selAnd, selOr, selNot, truth_bl, iteM, bandM, borM, Ev.notM, chainM, callM, bltM, partM, partD, sliceM, rng1M, rng2M, tnilM, tconsM, tnmM, noX, Out.bind, Out.st, opt, okk, getR, List.map, List.replicate, List.append, List.length, List.set, Nat.sub, HAppend.hAppend, Append.append, addF, subF, ltM, leM, gtM, geM, eqM, neM, fin, bltF, one, two, onSeq, onInt, onLst, onSome, seqOf, len0, len1, len2, len3, len4, len5, intF, isaF, tyOf, isaT, E.isNo, Bool.not_true, Bool.not_false, e30, finM_same, eq_nil1 h, ix10, by_by, decide_eq_false (show ¬ ((1 : Int) = 2) by decide)]
theorem same_ap1 (w : WF m) (r : Rd x x' t) (q : Rd y y' u) : Same x y m (.tup [.str "apart"]) false := fun n => by
  have h : (toPy m 9 (.tup [.str "apart"])).isSome = true := by kernel_rfl
  constructor
  · rw [run_at (f := e17.fn) rfl rfl]
    simp only [tdS_same, tdS_put, ix30, ix31, ix32, ix40, ix41, ix42, ix43, ix20, ix21, Ent.fn, startR, denS, den, asV, asS, asT, consM, lstM, bin2, negM, testM, sel_t, sel_f, selAnd, selOr, selNot, truth_bl, iteM, bandM, borM, Ev.notM, chainM, callM, bltM, partM, partD, sliceM, rng1M, rng2M, tnilM, tconsM, tnmM, noX, Out.bind, Out.st, opt, okk, getR, List.map, List.replicate, List.append, List.length, List.set, Nat.sub, HAppend.hAppend, Append.append, addF, subF, ltM, leM, gtM, geM, eqM, neM, fin, bltF, one, two, onSeq, onInt, onLst, onSome, seqOf, len0, len1, len2, len3, len4, len5, intF, isaF, tyOf, isaT, E.isNo, Bool.not_true, Bool.not_false, e17, require_run _ w _ r.inv.ok, require_run _ w _ q.inv.ok, finM_same, eq_nil1 h, ix10, ap_by, ap_ap, decide_eq_false (show ¬ ((1 : Int) = 3) by decide)]
  · rw [run_at (f := e30.fn) rfl rfl]
    simp only [tdS_same, tdS_put, ix30, ix31, ix32, ix40, ix41, ix42, ix43, ix20, ix21, Ent.fn, startR, denS, den, asV, asS, asT, consM, lstM, bin2, negM, testM, sel_t, sel_f, selAnd, selOr, selNot, truth_bl, iteM, bandM, borM, Ev.notM, chainM, callM, bltM, partM, partD, sliceM, rng1M, rng2M, tnilM, tconsM, tnmM, noX, Out.bind, Out.st, opt, okk, getR, List.map, List.replicate, List.append, List.length, List.set, Nat.sub, HAppend.hAppend, Append.append, addF, subF, ltM, leM, gtM, geM, eqM, neM, fin, bltF, one, two, onSeq, onInt, onLst, onSome, seqOf, len0, len1, len2, len3, len4, len5, intF, isaF, tyOf, isaT, E.isNo, Bool.not_true, Bool.not_false, e30, finM_same, eq_nil1 h, ix10, ap_by, ap_ap, decide_eq_false (show ¬ ((1 : Int) = 3) by decide)]
theorem same_by3 (d : D) (w : WF m) (r : Rd x x' t) (q : Rd y y' u) (h : (toPy m 9 (.tup [.str "by", d, .int 0])).isSome = true) : Same x y m (.tup [.str "by", d, .int 0]) false := fun n => by
  constructor
  · rw [run_at (f := e17.fn) rfl rfl]
    simp only [tdS_same, tdS_put, ix30, ix31, ix32, ix40, ix41, ix42, ix43, ix20, ix21, Ent.fn, startR, denS, den, asV, asS, asT, consM, lstM, bin2, negM, testM, sel_t, sel_f, selAnd, selOr, selNot, truth_bl, iteM, bandM, borM, Ev.notM, chainM, callM, bltM, partM, partD, sliceM, rng1M, rng2M, tnilM, tconsM, tnmM, noX, Out.bind, Out.st, opt, okk, getR, List.map, List.replicate, List.append, List.length, List.set, Nat.sub, HAppend.hAppend, Append.append, addF, subF, ltM, leM, gtM, geM, eqM, neM, fin, bltF, one, two, onSeq, onInt, onLst, onSome, seqOf, len0, len1, len2, len3, len4, len5, intF, isaF, tyOf, isaT, E.isNo, Bool.not_true, Bool.not_false, e17, require_run _ w _ r.inv.ok, require_run _ w _ q.inv.ok, finM_same, eq_nil1 h, by_by, decide_eq_false (show ¬ ((3 : Int) = 2) by decide)]
  · rw [run_at (f := e30.fn) rfl rfl]
    simp only [tdS_same, tdS_put, ix30, ix31, ix32, ix40, ix41, ix42, ix43, ix20, ix21, Ent.fn, startR, denS, den, asV, asS, asT, consM, lstM, bin2, negM, testM, sel_t, sel_f, selAnd, selOr, selNot, truth_bl, iteM, bandM, borM, Ev.notM, chainM, callM, bltM, partM, partD, sliceM, rng1M, rng2M, tnilM, tconsM, tnmM, noX, Out.bind, Out.st, opt, okk, getR, List.map, List.replicate, List.append, List.length, List.set, Nat.sub, HAppend.hAppend, Append.append, addF, subF, ltM, leM, gtM, geM, eqM, neM, fin, bltF, one, two, onSeq, onInt, onLst, onSome, seqOf, len0, len1, len2, len3, len4, len5, intF, isaF, tyOf, isaT, E.isNo, Bool.not_true, Bool.not_false, e30, finM_same, eq_nil1 h, by_by, decide_eq_false (show ¬ ((3 : Int) = 2) by decide)]
theorem same_ap4 (a b : D) (w : WF m) (r : Rd x x' t) (q : Rd y y' u) (h : (toPy m 9 (.tup [.str "apart", a, b, .int 0])).isSome = true) : Same x y m (.tup [.str "apart", a, b, .int 0]) false := fun n => by
  constructor
  · rw [run_at (f := e17.fn) rfl rfl]
    simp only [tdS_same, tdS_put, ix30, ix31, ix32, ix40, ix41, ix42, ix43, ix20, ix21, Ent.fn, startR, denS, den, asV, asS, asT, consM, lstM, bin2, negM, testM, sel_t, sel_f, selAnd, selOr, selNot, truth_bl, iteM, bandM, borM, Ev.notM, chainM, callM, bltM, partM, partD, sliceM, rng1M, rng2M, tnilM, tconsM, tnmM, noX, Out.bind, Out.st, opt, okk, getR, List.map, List.replicate, List.append, List.length, List.set, Nat.sub, HAppend.hAppend, Append.append, addF, subF, ltM, leM, gtM, geM, eqM, neM, fin, bltF, one, two, onSeq, onInt, onLst, onSome, seqOf, len0, len1, len2, len3, len4, len5, intF, isaF, tyOf, isaT, E.isNo, Bool.not_true, Bool.not_false, e17, require_run _ w _ r.inv.ok, require_run _ w _ q.inv.ok, finM_same, eq_nil1 h, ap_by, ap_ap, decide_eq_false (show ¬ ((4 : Int) = 3) by decide)]
  · rw [run_at (f := e30.fn) rfl rfl]
    simp only [tdS_same, tdS_put, ix30, ix31, ix32, ix40, ix41, ix42, ix43, ix20, ix21, Ent.fn, startR, denS, den, asV, asS, asT, consM, lstM, bin2, negM, testM, sel_t, sel_f, selAnd, selOr, selNot, truth_bl, iteM, bandM, borM, Ev.notM, chainM, callM, bltM, partM, partD, sliceM, rng1M, rng2M, tnilM, tconsM, tnmM, noX, Out.bind, Out.st, opt, okk, getR, List.map, List.replicate, List.append, List.length, List.set, Nat.sub, HAppend.hAppend, Append.append, addF, subF, ltM, leM, gtM, geM, eqM, neM, fin, bltF, one, two, onSeq, onInt, onLst, onSome, seqOf, len0, len1, len2, len3, len4, len5, intF, isaF, tyOf, isaT, E.isNo, Bool.not_true, Bool.not_false, e30, finM_same, eq_nil1 h, ap_by, ap_ap, decide_eq_false (show ¬ ((4 : Int) = 3) by decide)]
theorem same_by {v : Tb} (hv : Tm v) (w : WF m) (r : Rd x x' t) (q : Rd y y' u) : Same x y m (.tup [.str "by", dT v]) (decide (det v = 1) && eqS (led x v) y) := fun n => by
  have hx := (okS_sm r.inv.ok).b
  have h : (toPy m 9 (.tup [.str "by", dT v])).isSome = true := by kernel_rfl
  constructor
  · rw [run_at (f := e17.fn) rfl rfl]
    simp only [tdS_same, tdS_put, ix30, ix31, ix32, ix40, ix41, ix42, ix43, ix20, ix21, Ent.fn, startR, denS, den, asV, asS, asT, consM, lstM, bin2, negM, testM, sel_t, sel_f, selAnd, selOr, selNot, truth_bl, iteM, bandM, borM, Ev.notM, chainM, callM, bltM, partM, partD, sliceM, rng1M, rng2M, tnilM, tconsM, tnmM, noX, Out.bind, Out.st, opt, okk, getR, List.map, List.replicate, List.append, List.length, List.set, Nat.sub, HAppend.hAppend, Append.append, addF, subF, ltM, leM, gtM, geM, eqM, neM, fin, bltF, one, two, onSeq, onInt, onLst, onSome, seqOf, len0, len1, len2, len3, len4, len5, intF, isaF, tyOf, isaT, E.isNo, Bool.not_true, Bool.not_false, e17, require_run _ w _ r.inv.ok, require_run _ w _ q.inv.ok, finM_same, eq_nil1 h, by_by, decide_true, table_run w hv, led_run _ _ x v hx hv, eqM_S]
  · rw [run_at (f := e30.fn) rfl rfl]
    simp only [tdS_same, tdS_put, ix30, ix31, ix32, ix40, ix41, ix42, ix43, ix20, ix21, Ent.fn, startR, denS, den, asV, asS, asT, consM, lstM, bin2, negM, testM, sel_t, sel_f, selAnd, selOr, selNot, truth_bl, iteM, bandM, borM, Ev.notM, chainM, callM, bltM, partM, partD, sliceM, rng1M, rng2M, tnilM, tconsM, tnmM, noX, Out.bind, Out.st, opt, okk, getR, List.map, List.replicate, List.append, List.length, List.set, Nat.sub, HAppend.hAppend, Append.append, addF, subF, ltM, leM, gtM, geM, eqM, neM, fin, bltF, one, two, onSeq, onInt, onLst, onSome, seqOf, len0, len1, len2, len3, len4, len5, intF, isaF, tyOf, isaT, E.isNo, Bool.not_true, Bool.not_false, e30, finM_same, eq_nil1 h, by_by, decide_true, ltable_run w hv, lled_run _ _ x v hx hv, eqM_S]
/-! what is no table -/
theorem tab_ref {k n : Nat} {ds : List D} (h : m.lst k = some ds) : run T (n + 3) 18 [.ref k] m = .ok (.bl false) m ∧ run T (n + 3) 29 [.ref k] m = .ok (.bl false) m := by
  constructor
  · rw [run_at (f := e18.fn) rfl rfl]
    simp only [tdS_same, tdS_put, ix30, ix31, ix32, ix40, ix41, ix42, ix43, ix20, ix21, Ent.fn, startR, denS, den, asV, asS, asT, consM, lstM, bin2, negM, testM, sel_t, sel_f, selAnd, selOr, selNot, truth_bl, iteM, bandM, borM, Ev.notM, chainM, callM, bltM, partM, partD, sliceM, rng1M, rng2M, tnilM, tconsM, tnmM, noX, Out.bind, Out.st, opt, okk, getR, List.map, List.replicate, List.append, List.length, List.set, Nat.sub, HAppend.hAppend, Append.append, addF, subF, ltM, leM, gtM, geM, eqM, neM, fin, bltF, one, two, onSeq, onInt, onLst, onSome, seqOf, len0, len1, len2, len3, len4, len5, intF, isaF, tyOf, isaT, E.isNo, Bool.not_true, Bool.not_false, e18, finM_same, h]
  · rw [run_at (f := e29.fn) rfl rfl]
    simp only [tdS_same, tdS_put, ix30, ix31, ix32, ix40, ix41, ix42, ix43, ix20, ix21, Ent.fn, startR, denS, den, asV, asS, asT, consM, lstM, bin2, negM, testM, sel_t, sel_f, selAnd, selOr, selNot, truth_bl, iteM, bandM, borM, Ev.notM, chainM, callM, bltM, partM, partD, sliceM, rng1M, rng2M, tnilM, tconsM, tnmM, noX, Out.bind, Out.st, opt, okk, getR, List.map, List.replicate, List.append, List.length, List.set, Nat.sub, HAppend.hAppend, Append.append, addF, subF, ltM, leM, gtM, geM, eqM, neM, fin, bltF, one, two, onSeq, onInt, onLst, onSome, seqOf, len0, len1, len2, len3, len4, len5, intF, isaF, tyOf, isaT, E.isNo, Bool.not_true, Bool.not_false, e29, finM_same, h]
theorem tab_3 {n : Nat} {a b c : D} : run T (n + 3) 18 [.tup [a, b, c]] m = .ok (.bl false) m ∧ run T (n + 3) 29 [.tup [a, b, c]] m = .ok (.bl false) m := by
  constructor
  · rw [run_at (f := e18.fn) rfl rfl]
    simp only [tdS_same, tdS_put, ix30, ix31, ix32, ix40, ix41, ix42, ix43, ix20, ix21, Ent.fn, startR, denS, den, asV, asS, asT, consM, lstM, bin2, negM, testM, sel_t, sel_f, selAnd, selOr, selNot, truth_bl, iteM, bandM, borM, Ev.notM, chainM, callM, bltM, partM, partD, sliceM, rng1M, rng2M, tnilM, tconsM, tnmM, noX, Out.bind, Out.st, opt, okk, getR, List.map, List.replicate, List.append, List.length, List.set, Nat.sub, HAppend.hAppend, Append.append, addF, subF, ltM, leM, gtM, geM, eqM, neM, fin, bltF, one, two, onSeq, onInt, onLst, onSome, seqOf, len0, len1, len2, len3, len4, len5, intF, isaF, tyOf, isaT, E.isNo, Bool.not_true, Bool.not_false, e18, finM_same, decide_eq_false (show ¬ ((3 : Int) = 4) by decide)]
  · rw [run_at (f := e29.fn) rfl rfl]
    simp only [tdS_same, tdS_put, ix30, ix31, ix32, ix40, ix41, ix42, ix43, ix20, ix21, Ent.fn, startR, denS, den, asV, asS, asT, consM, lstM, bin2, negM, testM, sel_t, sel_f, selAnd, selOr, selNot, truth_bl, iteM, bandM, borM, Ev.notM, chainM, callM, bltM, partM, partD, sliceM, rng1M, rng2M, tnilM, tconsM, tnmM, noX, Out.bind, Out.st, opt, okk, getR, List.map, List.replicate, List.append, List.length, List.set, Nat.sub, HAppend.hAppend, Append.append, addF, subF, ltM, leM, gtM, geM, eqM, neM, fin, bltF, one, two, onSeq, onInt, onLst, onSome, seqOf, len0, len1, len2, len3, len4, len5, intF, isaF, tyOf, isaT, E.isNo, Bool.not_true, Bool.not_false, e29, finM_same, decide_eq_false (show ¬ ((3 : Int) = 4) by decide)]
theorem one_nil : cmpM .ne (.ref m.nx) (.ref (m.new (.lst [.bl true])).nx) ((m.new (.lst [.bl true])).new (.lst [])) = .ok (.bl true) ((m.new (.lst [.bl true])).new (.lst [])) := by
  have h1 : ((m.new (.lst [.bl true])).new (.lst [])).lst m.nx = some [.bl true] := by rw [lst_old (by rw [nx_new]; omega), lst_new]
  have h2 : ((m.new (.lst [.bl true])).new (.lst [])).lst (m.new (.lst [.bl true])).nx = some [] := lst_new
  generalize ((m.new (.lst [.bl true])).new (.lst [])) = m2 at *
  have e1 : toPy m2 9 (.ref m.nx) = some (.list [.bool true]) := by
    show (match m2.lst m.nx with | some ds => (match omap (toPy m2 8) ds with | some xs => some (PyData.list xs) | none => none) | none => none) = _
    rw [h1] <;> rfl
  have e2 : toPy m2 9 (.ref (m.new (.lst [.bl true])).nx) = some (.list []) := by
    show (match m2.lst (m.new (.lst [.bl true])).nx with | some ds => (match omap (toPy m2 8) ds with | some xs => some (PyData.list xs) | none => none) | none => none) = _
    rw [h2] <;> rfl
  have e4 : deq m2 (.ref m.nx) (.ref (m.new (.lst [.bl true])).nx) = some false := by
    unfold deq
    rw [e1, e2] <;> rfl
  have e : cmpM .ne (.ref m.nx) (.ref (m.new (.lst [.bl true])).nx) m2 = opt (((deq m2 (.ref m.nx) (.ref (m.new (.lst [.bl true])).nx)).map (!·)).map D.bl) m2 := rfl
  rw [e, e4] <;> rfl
theorem tab_bl {n : Nat} (w : WF m) : run T (n + 3) 18 [.tup [.bl true, .int 0, .int 0, .int 1]] m = .ok (.bl false) m ∧ run T (n + 3) 29 [.tup [.bl true, .int 0, .int 0, .int 1]] m = .ok (.bl false) m := by
  constructor
  · rw [run_at (f := e18.fn) rfl rfl]
    simp only [tdS_same, tdS_put, ix30, ix31, ix32, ix40, ix41, ix42, ix43, ix20, ix21, Ent.fn, startR, denS, den, asV, asS, asT, consM, lstM, bin2, negM, testM, sel_t, sel_f, selAnd, selOr, selNot, truth_bl, iteM, bandM, borM, Ev.notM, chainM, callM, bltM, partM, partD, sliceM, rng1M, rng2M, tnilM, tconsM, tnmM, noX, Out.bind, Out.st, opt, okk, getR, List.map, List.replicate, List.append, List.length, List.set, Nat.sub, HAppend.hAppend, Append.append, addF, subF, ltM, leM, gtM, geM, eqM, neM, fin, bltF, one, two, onSeq, onInt, onLst, onSome, seqOf, len0, len1, len2, len3, len4, len5, intF, isaF, tyOf, isaT, E.isNo, Bool.not_true, Bool.not_false, e18, compM, srcOf, onSrc, compL, wipeR, int_run, int_bl, decide_true]
    rw [newL_ok rfl]
    simp only [tdS_same, tdS_put, ix30, ix31, ix32, ix40, ix41, ix42, ix43, ix20, ix21, Ent.fn, startR, denS, den, asV, asS, asT, consM, lstM, bin2, negM, testM, sel_t, sel_f, selAnd, selOr, selNot, truth_bl, iteM, bandM, borM, Ev.notM, chainM, callM, bltM, partM, partD, sliceM, rng1M, rng2M, tnilM, tconsM, tnmM, noX, Out.bind, Out.st, opt, okk, getR, List.map, List.replicate, List.append, List.length, List.set, Nat.sub, HAppend.hAppend, Append.append, addF, subF, ltM, leM, gtM, geM, eqM, neM, fin, bltF, one, two, onSeq, onInt, onLst, onSome, seqOf, len0, len1, len2, len3, len4, len5, intF, isaF, tyOf, isaT, E.isNo, Bool.not_true, Bool.not_false, lst_new, List.reverse_cons, List.reverse_nil, boolsOf, List.all, id_eq, Bool.and_true, Bool.false_and, Bool.and_false]
    exact finM_new w rfl
  · rw [run_at (f := e29.fn) rfl rfl]
    simp only [tdS_same, tdS_put, ix30, ix31, ix32, ix40, ix41, ix42, ix43, ix20, ix21, Ent.fn, startR, denS, den, asV, asS, asT, consM, lstM, bin2, negM, testM, sel_t, sel_f, selAnd, selOr, selNot, truth_bl, iteM, bandM, borM, Ev.notM, chainM, callM, bltM, partM, partD, sliceM, rng1M, rng2M, tnilM, tconsM, tnmM, noX, Out.bind, Out.st, opt, okk, getR, List.map, List.replicate, List.append, List.length, List.set, Nat.sub, HAppend.hAppend, Append.append, addF, subF, ltM, leM, gtM, geM, eqM, neM, fin, bltF, one, two, onSeq, onInt, onLst, onSome, seqOf, len0, len1, len2, len3, len4, len5, intF, isaF, tyOf, isaT, E.isNo, Bool.not_true, Bool.not_false, e29, compM, srcOf, onSrc, compL, wipeR, lint_run, lint_bl, decide_true]
    rw [newL_ok rfl]
    simp only [tdS_same, tdS_put, ix30, ix31, ix32, ix40, ix41, ix42, ix43, ix20, ix21, Ent.fn, startR, denS, den, asV, asS, asT, consM, lstM, bin2, negM, testM, sel_t, sel_f, selAnd, selOr, selNot, truth_bl, iteM, bandM, borM, Ev.notM, chainM, callM, bltM, partM, partD, sliceM, rng1M, rng2M, tnilM, tconsM, tnmM, noX, Out.bind, Out.st, opt, okk, getR, List.map, List.replicate, List.append, List.length, List.set, Nat.sub, HAppend.hAppend, Append.append, addF, subF, ltM, leM, gtM, geM, eqM, neM, fin, bltF, one, two, onSeq, onInt, onLst, onSome, seqOf, len0, len1, len2, len3, len4, len5, intF, isaF, tyOf, isaT, E.isNo, Bool.not_true, Bool.not_false, List.reverse_cons, List.reverse_nil]
    rw [newL_ok rfl]
    simp only [tdS_same, tdS_put, ix30, ix31, ix32, ix40, ix41, ix42, ix43, ix20, ix21, Ent.fn, startR, denS, den, asV, asS, asT, consM, lstM, bin2, negM, testM, sel_t, sel_f, selAnd, selOr, selNot, truth_bl, iteM, bandM, borM, Ev.notM, chainM, callM, bltM, partM, partD, sliceM, rng1M, rng2M, tnilM, tconsM, tnmM, noX, Out.bind, Out.st, opt, okk, getR, List.map, List.replicate, List.append, List.length, List.set, Nat.sub, HAppend.hAppend, Append.append, addF, subF, ltM, leM, gtM, geM, eqM, neM, fin, bltF, one, two, onSeq, onInt, onLst, onSome, seqOf, len0, len1, len2, len3, len4, len5, intF, isaF, tyOf, isaT, E.isNo, Bool.not_true, Bool.not_false, List.reverse_nil, one_nil]
    exact finM_new2 w rfl
theorem same_byx {d : D} (h : (toPy m 9 (.tup [.str "by", d])).isSome = true) (hd : ∀ n, run T (n + 3) 18 [d] m = .ok (.bl false) m ∧ run T (n + 3) 29 [d] m = .ok (.bl false) m) (w : WF m) (r : Rd x x' t) (q : Rd y y' u) : Same x y m (.tup [.str "by", d]) false := fun n => by
  constructor
  · rw [run_at (f := e17.fn) rfl rfl]
    simp only [tdS_same, tdS_put, ix30, ix31, ix32, ix40, ix41, ix42, ix43, ix20, ix21, Ent.fn, startR, denS, den, asV, asS, asT, consM, lstM, bin2, negM, testM, sel_t, sel_f, selAnd, selOr, selNot, truth_bl, iteM, bandM, borM, Ev.notM, chainM, callM, bltM, partM, partD, sliceM, rng1M, rng2M, tnilM, tconsM, tnmM, noX, Out.bind, Out.st, opt, okk, getR, List.map, List.replicate, List.append, List.length, List.set, Nat.sub, HAppend.hAppend, Append.append, addF, subF, ltM, leM, gtM, geM, eqM, neM, fin, bltF, one, two, onSeq, onInt, onLst, onSome, seqOf, len0, len1, len2, len3, len4, len5, intF, isaF, tyOf, isaT, E.isNo, Bool.not_true, Bool.not_false, e17, require_run _ w _ r.inv.ok, require_run _ w _ q.inv.ok, finM_same, eq_nil1 h, by_by, decide_true, (hd (n + 2)).1]
  · rw [run_at (f := e30.fn) rfl rfl]
    simp only [tdS_same, tdS_put, ix30, ix31, ix32, ix40, ix41, ix42, ix43, ix20, ix21, Ent.fn, startR, denS, den, asV, asS, asT, consM, lstM, bin2, negM, testM, sel_t, sel_f, selAnd, selOr, selNot, truth_bl, iteM, bandM, borM, Ev.notM, chainM, callM, bltM, partM, partD, sliceM, rng1M, rng2M, tnilM, tconsM, tnmM, noX, Out.bind, Out.st, opt, okk, getR, List.map, List.replicate, List.append, List.length, List.set, Nat.sub, HAppend.hAppend, Append.append, addF, subF, ltM, leM, gtM, geM, eqM, neM, fin, bltF, one, two, onSeq, onInt, onLst, onSome, seqOf, len0, len1, len2, len3, len4, len5, intF, isaF, tyOf, isaT, E.isNo, Bool.not_true, Bool.not_false, e30, finM_same, eq_nil1 h, by_by, decide_true, (hd (n + 2)).2]
theorem sl31 {a b c : D} : sliceF (.tup [a, b, c]) (some 1) none m = .ok (.tup [b, c]) m := rfl
theorem same_ap {v z : Sh} (hv : okS v = true) (hz : okS z = true) (w : WF m) (r : Rd x x' t) (q : Rd y y' u) : Same x y m (.tup [.str "apart", dS v, dS z]) (!eqS x' y' && (eqS v x' && eqS z y')) := fun n => by
  have h : (toPy m 9 (.tup [.str "apart", dS v, dS z])).isSome = true := by kernel_rfl
  constructor
  · rw [run_at (f := e17.fn) rfl rfl]
    simp only [tdS_same, tdS_put, ix30, ix31, ix32, ix40, ix41, ix42, ix43, ix20, ix21, Ent.fn, startR, denS, den, asV, asS, asT, consM, lstM, bin2, negM, testM, sel_t, sel_f, selAnd, selOr, selNot, truth_bl, iteM, bandM, borM, Ev.notM, chainM, callM, bltM, partM, partD, sliceM, rng1M, rng2M, tnilM, tconsM, tnmM, noX, Out.bind, Out.st, opt, okk, getR, List.map, List.replicate, List.append, List.length, List.set, Nat.sub, HAppend.hAppend, Append.append, addF, subF, ltM, leM, gtM, geM, eqM, neM, fin, bltF, one, two, onSeq, onInt, onLst, onSome, seqOf, len0, len1, len2, len3, len4, len5, intF, isaF, tyOf, isaT, E.isNo, Bool.not_true, Bool.not_false, e17, require_run _ w _ r.inv.ok, require_run _ w _ q.inv.ok, finM_same, eq_nil1 h, ap_by, ap_ap, decide_true, isshape_run _ w, hv, hz, (r.run _ _).2, (q.run _ _).2, sl31, eqM_2, neM_S]
    rw [Bool.and_comm]
  · rw [run_at (f := e30.fn) rfl rfl]
    simp only [tdS_same, tdS_put, ix30, ix31, ix32, ix40, ix41, ix42, ix43, ix20, ix21, Ent.fn, startR, denS, den, asV, asS, asT, consM, lstM, bin2, negM, testM, sel_t, sel_f, selAnd, selOr, selNot, truth_bl, iteM, bandM, borM, Ev.notM, chainM, callM, bltM, partM, partD, sliceM, rng1M, rng2M, tnilM, tconsM, tnmM, noX, Out.bind, Out.st, opt, okk, getR, List.map, List.replicate, List.append, List.length, List.set, Nat.sub, HAppend.hAppend, Append.append, addF, subF, ltM, leM, gtM, geM, eqM, neM, fin, bltF, one, two, onSeq, onInt, onLst, onSome, seqOf, len0, len1, len2, len3, len4, len5, intF, isaF, tyOf, isaT, E.isNo, Bool.not_true, Bool.not_false, e30, finM_same, eq_nil1 h, ap_by, ap_ap, decide_true, (r.run _ _).1, (q.run _ _).1, sl31, neM_S, repr_pair (okS_sm hv) (okS_sm hz), repr_pair r.sm q.sm, eqM_shown]
theorem shape_ref {k n : Nat} {ds : List D} (h : m.lst k = some ds) : run T (n + 3) 2 [.ref k] m = .ok (.bl false) m := by
  rw [run_at (f := e2.fn) rfl rfl]
  simp only [tdS_same, tdS_put, ix30, ix31, ix32, ix40, ix41, ix42, ix43, ix20, ix21, Ent.fn, startR, denS, den, asV, asS, asT, consM, lstM, bin2, negM, testM, sel_t, sel_f, selAnd, selOr, selNot, truth_bl, iteM, bandM, borM, Ev.notM, chainM, callM, bltM, partM, partD, sliceM, rng1M, rng2M, tnilM, tconsM, tnmM, noX, Out.bind, Out.st, opt, okk, getR, List.map, List.replicate, List.append, List.length, List.set, Nat.sub, HAppend.hAppend, Append.append, addF, subF, ltM, leM, gtM, geM, eqM, neM, fin, bltF, one, two, onSeq, onInt, onLst, onSome, seqOf, len0, len1, len2, len3, len4, len5, intF, isaF, tyOf, isaT, E.isNo, Bool.not_true, Bool.not_false, e2, finM_same, h]
theorem same_apl {k : Nat} {a b c : Int} {z : Sh} (hk : m.lst k = some [.int a, .int b, .int c]) (ha : b64 a = true) (hb : b64 b = true) (hc : b64 c = true) (hz : Sm z) (w : WF m) (r : Rd x x' t) (q : Rd y y' u) : Same x y m (.tup [.str "apart", .ref k, dS z]) false := fun n => by
  have h : (toPy m 9 (.tup [.str "apart", .ref k, dS z])).isSome = true := by
    have e0 : toPy m 8 (.str "apart") = some (.str "apart") := by kernel_rfl
    have e1 : toPy m 8 (.ref k) = some (.list [.int a, .int b, .int c]) := by
      show (match m.lst k with | some ds => (match omap (toPy m 7) ds with | some xs => some (PyData.list xs) | none => none) | none => none) = _
      rw [hk] <;> rfl
    have e2 : toPy m 8 (dS z) = some (pS z) := rfl
    show ((match omap (toPy m 8) [.str "apart", .ref k, dS z] with | some xs => some (PyData.tuple xs) | none => none) : Option PyData).isSome = true
    simp only [omap, e0, e1, e2, Option.isSome]
  constructor
  · rw [run_at (f := e17.fn) rfl rfl]
    simp only [tdS_same, tdS_put, ix30, ix31, ix32, ix40, ix41, ix42, ix43, ix20, ix21, Ent.fn, startR, denS, den, asV, asS, asT, consM, lstM, bin2, negM, testM, sel_t, sel_f, selAnd, selOr, selNot, truth_bl, iteM, bandM, borM, Ev.notM, chainM, callM, bltM, partM, partD, sliceM, rng1M, rng2M, tnilM, tconsM, tnmM, noX, Out.bind, Out.st, opt, okk, getR, List.map, List.replicate, List.append, List.length, List.set, Nat.sub, HAppend.hAppend, Append.append, addF, subF, ltM, leM, gtM, geM, eqM, neM, fin, bltF, one, two, onSeq, onInt, onLst, onSome, seqOf, len0, len1, len2, len3, len4, len5, intF, isaF, tyOf, isaT, E.isNo, Bool.not_true, Bool.not_false, e17, require_run _ w _ r.inv.ok, require_run _ w _ q.inv.ok, finM_same, eq_nil1 h, ap_by, ap_ap, decide_true, shape_ref hk]
  · rw [run_at (f := e30.fn) rfl rfl]
    simp only [tdS_same, tdS_put, ix30, ix31, ix32, ix40, ix41, ix42, ix43, ix20, ix21, Ent.fn, startR, denS, den, asV, asS, asT, consM, lstM, bin2, negM, testM, sel_t, sel_f, selAnd, selOr, selNot, truth_bl, iteM, bandM, borM, Ev.notM, chainM, callM, bltM, partM, partD, sliceM, rng1M, rng2M, tnilM, tconsM, tnmM, noX, Out.bind, Out.st, opt, okk, getR, List.map, List.replicate, List.append, List.length, List.set, Nat.sub, HAppend.hAppend, Append.append, addF, subF, ltM, leM, gtM, geM, eqM, neM, fin, bltF, one, two, onSeq, onInt, onLst, onSome, seqOf, len0, len1, len2, len3, len4, len5, intF, isaF, tyOf, isaT, E.isNo, Bool.not_true, Bool.not_false, e30, finM_same, eq_nil1 h, ap_by, ap_ap, decide_true, (r.run _ _).1, (q.run _ _).1, sl31, neM_S, repr_list hk ha hb hc hz, repr_pair r.sm q.sm, eqM_list, Bool.and_false]
end
end Pf

set_option Elab.async false
set_option linter.all false
set_option maxRecDepth 100000
set_option maxHeartbeats 1000000
namespace Pf
open PySem L2 Ev
/-! dice -/
def dL (a b c : Int) : O := .lst [.int a, .int b, .int c]
section
variable {m : Mem} {k : Nat} {a b c : Int}
theorem finM_nx {m' : Mem} {d : D} (h : m'.nx = m.nx) : finM m.nx d m' = .ok d m' := by rw [← h]; exact finM_same
theorem lst_dL (h : m.get k = some (dL a b c)) : m.lst k = some [.int a, .int b, .int c] := by
  unfold Mem.lst
  rw [h] <;> rfl
theorem ixd0 (h : m.get k = some (dL a b c)) : ixF (.ref k) (.int 0) m = .ok (.int a) m := by
  show (match m.lst k with | some ds => opt (L2.atI ds 0) m | none => .bad) = _
  rw [lst_dL h] <;> rfl
theorem ixd1 (h : m.get k = some (dL a b c)) : ixF (.ref k) (.int 1) m = .ok (.int b) m := by
  show (match m.lst k with | some ds => opt (L2.atI ds 1) m | none => .bad) = _
  rw [lst_dL h] <;> rfl
theorem ixd2 (h : m.get k = some (dL a b c)) : ixF (.ref k) (.int 2) m = .ok (.int c) m := by
  show (match m.lst k with | some ds => opt (L2.atI ds 2) m | none => .bad) = _
  rw [lst_dL h] <;> rfl
theorem setd0 {v : Int} (h : m.get k = some (dL a b c)) : setItemF (.ref k) (.int 0) (.int v) m = .ok () (m.put k (dL v b c)) := by
  show (match m.get k with | some (.lst ds) => (match L2.ixN ds.length 0 with | some j => Out.ok () (m.put k (.lst (ds.set j (.int v)))) | none => .bad) | _ => .bad) = _
  rw [h] <;> rfl
theorem setd2 {v : Int} (h : m.get k = some (dL a b c)) : setItemF (.ref k) (.int 2) (.int v) m = .ok () (m.put k (dL a b v)) := by
  show (match m.get k with | some (.lst ds) => (match L2.ixN ds.length 2 with | some j => Out.ok () (m.put k (.lst (ds.set j (.int v)))) | none => .bad) | _ => .bad) = _
  rw [h] <;> rfl
theorem fmod_in {i t : Int} (h : 0 < t) : 0 ≤ i.fmod t ∧ i.fmod t < t := by
  rw [Int.fmod_eq_emod_of_nonneg _ (by omega)]
  exact ⟨Int.emod_nonneg _ (by omega), Int.emod_lt_of_pos _ h⟩
theorem roll_run {t : Int} (h : m.get k = some (dL a b c)) (ht : 0 < t) (ht2 : t ≤ 1000000) : ∃ r a' b' c', (0 ≤ r ∧ r < t) ∧ ∀ n, run T (n + 1) 20 [.ref k, .int t] m = .ok (.int r) (m.put k (dL a' b' c')) := by
  have t0 : decide (t = 0) = false := decide_eq_false (by omega)
  by_cases ha : 0 < a
  · have h1 : (m.put k (dL (a.fdiv t) b c)).nx = m.nx := rfl
    refine ⟨a.fmod t, a.fdiv t, b, c, fmod_in ht, fun n => ?_⟩
    rw [run_at (f := e20.fn) rfl rfl]
    simp only [tdS_same, tdS_put, ix30, ix31, ix32, ix40, ix41, ix42, ix43, ix20, ix21, Ent.fn, startR, denS, den, asV, asS, asT, consM, lstM, bin2, negM, testM, sel_t, sel_f, selAnd, selOr, selNot, truth_bl, iteM, bandM, borM, Ev.notM, chainM, callM, bltM, partM, partD, sliceM, rng1M, rng2M, tnilM, tconsM, tnmM, noX, Out.bind, Out.st, opt, okk, getR, List.map, List.replicate, List.append, List.length, List.set, Nat.sub, HAppend.hAppend, Append.append, addF, subF, ltM, leM, gtM, geM, eqM, neM, fin, bltF, one, two, onSeq, onInt, onLst, onSome, seqOf, len0, len1, len2, len3, len4, len5, intF, isaF, tyOf, isaT, E.isNo, Bool.not_true, Bool.not_false, e20, ixd0 h, decide_eq_true ha, modF t0, fdivF t0 (blt_log (by omega) (by omega)), tsubM, setd0 h, finM_nx h1]
  · have hg : (m.put k (dL a b (c + 1))).get k = some (dL a b (c + 1)) := get_put_same h
    have h1 : (m.put k (dL a b (c + 1))).nx = m.nx := rfl
    have b3 := fmod_in (i := b + 86028157 * (c + 1)) (t := 2305843009213693951) (by decide)
    have b64a : b64 ((b + 86028157 * (c + 1)).fmod 2305843009213693951) = true := by
      simp only [b64, Bool.and_eq_true, decide_eq_true_eq]
      omega
    have k1 : b64 86028157 = true := by decide
    have k2 : b64 181 = true := by decide
    have k3 : b64 15485867 = true := by decide
    have z1 : decide ((2305843009213693951 : Int) = 0) = false := by decide
    have z2 : decide ((2305843009213693907 : Int) = 0) = false := by decide
    have z3 : decide ((65579 : Int) = 0) = false := by decide
    have z4 : Nat.blt (65579 : Int).natAbs.log2 9000 = true := by decide +kernel
    refine ⟨_, a, b, c + 1, fmod_in (i := (((((b + 86028157 * (c + 1)).fmod 2305843009213693951) * ((b + 86028157 * (c + 1)).fmod 2305843009213693951) + 181 * (c + 1)).fmod 2305843009213693907) * 15485867 + (b + 86028157 * (c + 1)).fmod 2305843009213693951).fdiv 65579) ht, fun n => ?_⟩
    rw [run_at (f := e20.fn) rfl rfl]
    simp only [tdS_same, tdS_put, ix30, ix31, ix32, ix40, ix41, ix42, ix43, ix20, ix21, Ent.fn, startR, denS, den, asV, asS, asT, consM, lstM, bin2, negM, testM, sel_t, sel_f, selAnd, selOr, selNot, truth_bl, iteM, bandM, borM, Ev.notM, chainM, callM, bltM, partM, partD, sliceM, rng1M, rng2M, tnilM, tconsM, tnmM, noX, Out.bind, Out.st, opt, okk, getR, List.map, List.replicate, List.append, List.length, List.set, Nat.sub, HAppend.hAppend, Append.append, addF, subF, ltM, leM, gtM, geM, eqM, neM, fin, bltF, one, two, onSeq, onInt, onLst, onSome, seqOf, len0, len1, len2, len3, len4, len5, intF, isaF, tyOf, isaT, E.isNo, Bool.not_true, Bool.not_false, e20, ixd0 h, decide_eq_false ha, ixd2 h, tsubM, setd2 h, ixd1 hg, ixd2 hg, mulF_l, mulF_r, k1, k2, k3, b64a, modF, z1, z2, z3, z4, fdivF, t0, finM_nx h1]
end
end Pf

set_option Elab.async false
set_option linter.all false
set_option maxRecDepth 100000
set_option maxHeartbeats 1000000
namespace Pf
open PySem L2 Ev
/-! draws -/
def MD (ns : List Int) (a b c : Int) : Mem := ⟨2, [(1, dL a b c), (0, .scr ns)]⟩
theorem wfMD {ns : List Int} {a b c : Int} : WF (MD ns a b c) := ⟨rfl, rfl⟩
theorem atI_in {xs : List D} {r : Int} (h0 : 0 ≤ r) (h1 : r < xs.length) : ∃ x ∈ xs, L2.atI xs r = some x := by
  have h2 : r.toNat < xs.length := by omega
  refine ⟨xs[r.toNat], List.getElem_mem h2, ?_⟩
  unfold L2.atI L2.ixN
  rw [if_pos h0, if_pos h1]
  show xs[r.toNat]? = _
  rw [List.getElem?_eq_getElem h2]
theorem roll0 {ns : List Int} {a b c t : Int} (ht : 0 < t) (ht2 : t ≤ 1000000) : ∃ r a' b' c', (0 ≤ r ∧ r < t) ∧ ∀ n, run T (n + 1) 20 [.ref 1, .int t] (MD ns a b c) = .ok (.int r) (MD ns a' b' c') := by
  obtain ⟨r, a', b', c', hr, h⟩ := roll_run (m := MD ns a b c) (k := 1) rfl ht ht2
  exact ⟨r, a', b', c', hr, h⟩
theorem pick_run {ns : List Int} {a b c : Int} {xs : List D} (h0 : 0 < xs.length) (h1 : xs.length ≤ 1000) : ∃ x a' b' c', x ∈ xs ∧ ∀ n, run T (n + 2) 21 [.ref 1, .ref 2] ((MD ns a b c).new (.lst xs)) = .ok x ((MD ns a' b' c').new (.lst xs)) := by
  obtain ⟨r, a', b', c', hr, h⟩ := roll_run (m := (MD ns a b c).new (.lst xs)) (k := 1) (t := xs.length) rfl (by omega) (by omega)
  obtain ⟨x, hx, e⟩ := atI_in (xs := xs) hr.1 hr.2
  refine ⟨x, a', b', c', hx, fun n => ?_⟩
  rw [run_at (f := e21.fn) rfl rfl]
  have hl : ((MD ns a b c).new (.lst xs)).lst 2 = some xs := rfl
  have hn : lenF (.ref 2) ((MD ns a b c).new (.lst xs)) = .ok (.int xs.length) ((MD ns a b c).new (.lst xs)) := rfl
  have hi : ixF (.ref 2) (.int r) (((MD ns a b c).new (.lst xs)).put 1 (dL a' b' c')) = .ok x (((MD ns a b c).new (.lst xs)).put 1 (dL a' b' c')) := by
    show opt (L2.atI xs r) _ = _
    rw [e] <;> rfl
  have hp : ((MD ns a b c).new (.lst xs)).put 1 (dL a' b' c') = (MD ns a' b' c').new (.lst xs) := rfl
  simp only [tdS_same, tdS_put, ix30, ix31, ix32, ix40, ix41, ix42, ix43, ix20, ix21, Ent.fn, startR, denS, den, asV, asS, asT, consM, lstM, bin2, negM, testM, sel_t, sel_f, selAnd, selOr, selNot, truth_bl, iteM, bandM, borM, Ev.notM, chainM, callM, bltM, partM, partD, sliceM, rng1M, rng2M, tnilM, tconsM, tnmM, noX, Out.bind, Out.st, opt, okk, getR, List.map, List.replicate, List.append, List.length, List.set, Nat.sub, HAppend.hAppend, Append.append, addF, subF, ltM, leM, gtM, geM, eqM, neM, fin, bltF, one, two, onSeq, onInt, onLst, onSome, seqOf, len0, len1, len2, len3, len4, len5, intF, isaF, tyOf, isaT, E.isNo, Bool.not_true, Bool.not_false, e21, hn, h, hi, finM_nx]
  rw [hp]
  exact finM_nx rfl
/-- bounds of a drawn table, by columns -/
def In (M k : Int) (x y : Int) : Prop := (-M ≤ x ∧ x ≤ M ∧ -k ≤ y ∧ y ≤ k) ∨ (-k ≤ x ∧ x ≤ k ∧ -M ≤ y ∧ y ≤ M)
structure Bd (M k : Int) (t : Tb) : Prop where
  det : det t = 1
  l : In M k t.p t.r
  r : In M k t.q t.s
theorem mulb {w m y k : Int} (hm : -w ≤ m ∧ m ≤ w) (hy : -k ≤ y ∧ y ≤ k) (hw : 0 ≤ w) (hk : 0 ≤ k) : -(w * k) ≤ m * y ∧ m * y ≤ w * k := by
  have h1 : 0 ≤ (w - m) * (k - y) := Int.mul_nonneg (by omega) (by omega)
  have h2 : 0 ≤ (w + m) * (k + y) := Int.mul_nonneg (by omega) (by omega)
  have h3 : 0 ≤ (w - m) * (k + y) := Int.mul_nonneg (by omega) (by omega)
  have h4 : 0 ≤ (w + m) * (k - y) := Int.mul_nonneg (by omega) (by omega)
  constructor <;> grind
theorem In.up {M k w m x y : Int} (h : In M k x y) (hm : -w ≤ m ∧ m ≤ w) (hw : 1 ≤ w) (hk : 0 ≤ k) (hM : k ≤ M) : In (w * M + k) M (x + m * y) y := by
  have e : M ≤ w * M := by
    have : 0 ≤ (w - 1) * M := Int.mul_nonneg (by omega) (by omega)
    grind
  rcases h with ⟨a, b, c, d⟩ | ⟨a, b, c, d⟩
  · have := mulb hm ⟨c, d⟩ (by omega) hk
    have h2 : w * k ≤ w * M := Int.mul_le_mul_of_nonneg_left hM (by omega)
    have h5 : M + w * k ≤ w * M + k := by
      have : 0 ≤ (w - 1) * (M - k) := Int.mul_nonneg (by omega) (by omega)
      grind
    exact .inl ⟨by omega, by omega, by omega, by omega⟩
  · have := mulb hm ⟨c, d⟩ (by omega) (by omega)
    exact .inl ⟨by omega, by omega, by omega, by omega⟩
theorem In.swap {M k x y : Int} (h : In M k x y) : In M k y x := h.symm.imp (fun h => ⟨h.2.2.1, h.2.2.2, h.1, h.2.1⟩) fun h => ⟨h.2.2.1, h.2.2.2, h.1, h.2.1⟩
theorem In.mono {M k M' k' x y : Int} (h : In M k x y) (h1 : M ≤ M') (h2 : k ≤ k') : In M' k' x y := by
  rcases h with ⟨a, b, c, d⟩ | ⟨a, b, c, d⟩
  · exact .inl ⟨by omega, by omega, by omega, by omega⟩
  · exact .inr ⟨by omega, by omega, by omega, by omega⟩
def el (m : Int) (i : Nat) : Tb := match i with
  | 0 => ⟨1, m, 0, 1⟩
  | 1 => ⟨1, 0, m, 1⟩
  | _ => ⟨0, -1, 1, 0⟩
theorem Bd.step {M k w m : Int} {t : Tb} (b : Bd M k t) (hm : -w ≤ m ∧ m ≤ w) (hw : 1 ≤ w) (hk : 0 ≤ k) (hM : k ≤ M) (i : Nat) : Bd (w * M + k) M (tms (el m i) t) := by
  have hd : Pf.det (el m i) = 1 := by
    unfold el
    split <;> simp only [Pf.det] <;> omega
  have e : M ≤ w * M + k := by
    have : 0 ≤ (w - 1) * M := Int.mul_nonneg (by omega) (by omega)
    grind
  refine ⟨by rw [det_tms, hd, b.det]; rfl, ?_, ?_⟩
  · unfold el tms
    split <;> dsimp only
    · have := b.l.up hm hw hk hM
      rw [show 1 * t.p + m * t.r = t.p + m * t.r by omega, show 0 * t.p + 1 * t.r = t.r by omega]
      exact this
    · have := (b.l.swap.up hm hw hk hM).swap
      rw [show 1 * t.p + 0 * t.r = t.p by omega, show m * t.p + 1 * t.r = t.r + m * t.p by omega]
      exact this
    · have := b.l.swap.mono e hM
      rw [show 0 * t.p + -1 * t.r = -t.r by omega, show 1 * t.p + 0 * t.r = t.p by omega]
      unfold In at *
      omega
  · unfold el tms
    split <;> dsimp only
    · have := b.r.up hm hw hk hM
      rw [show 1 * t.q + m * t.s = t.q + m * t.s by omega, show 0 * t.q + 1 * t.s = t.s by omega]
      exact this
    · have := (b.r.swap.up hm hw hk hM).swap
      rw [show 1 * t.q + 0 * t.s = t.q by omega, show m * t.q + 1 * t.s = t.s + m * t.q by omega]
      exact this
    · have := b.r.swap.mono e hM
      rw [show 0 * t.q + -1 * t.s = -t.s by omega, show 1 * t.q + 0 * t.s = t.q by omega]
      unfold In at *
      omega
theorem Bd.tm {M k : Int} {t : Tb} (b : Bd M k t) (hk : k ≤ M) (hM : M ≤ 1000000) : Tm t := by
  have h1 := b.l
  have h2 := b.r
  unfold In at h1 h2
  refine ⟨?_, ?_, ?_, ?_⟩ <;> (simp only [b64, Bool.and_eq_true, decide_eq_true_eq]; omega)
end Pf

set_option Elab.async false
set_option linter.all false
set_option maxRecDepth 100000
set_option maxHeartbeats 1000000
namespace Pf
open PySem L2 Ev
theorem tdS_MD {ns : List Int} {a b c : Int} {ρ : Rho} : tdS 2 ρ (MD ns a b c) = MD ns a b c := tdS_nx (m := MD ns a b c) rfl
theorem tdS_MD' {ns : List Int} {a b c a' b' c' : Int} {ρ : Rho} : tdS (MD ns a' b' c').nx ρ (MD ns a b c) = MD ns a b c := tdS_nx (m := MD ns a' b' c') rfl
def bD : S := (.seq (.asg (.tnm 4) (.bin .sub (.call 20 (.cons (.var 0) (.cons (.bin .add (.bin .mul (.const (.int 2)) (.var 1)) (.const (.int 1))) .nil))) (.var 1))) (.seq (.asg (.tnm 2) (.call 23 (.cons (.call 21 (.cons (.var 0) (.cons (.lst (.cons (.tup (.cons (.const (.int 1)) (.cons (.var 4) (.cons (.const (.int 0)) (.cons (.const (.int 1)) .nil))))) (.cons (.tup (.cons (.const (.int 1)) (.cons (.const (.int 0)) (.cons (.var 4) (.cons (.const (.int 1)) .nil))))) (.cons (.tup (.cons (.const (.int 0)) (.cons (.neg (.const (.int 1))) (.cons (.const (.int 1)) (.cons (.const (.int 0)) .nil))))) .nil)))) .nil))) (.cons (.var 2) .nil)))) .skip))
def up (w : Int) : Nat → Int × Int → Int × Int
  | 0, p => p
  | j + 1, p => up w j (w * p.1 + p.2, p.1)
structure Okp (w : Int) (j : Nat) (p : Int × Int) : Prop where
  k : 0 ≤ p.2
  M : p.2 ≤ p.1
  b : (up w j p).1 ≤ 1000000
theorem up_ge {w : Int} (hw : 1 ≤ w) : ∀ j p, 0 ≤ p.2 → p.2 ≤ p.1 → p.1 ≤ (up w j p).1
  | 0, p, _, _ => Int.le_refl _
  | j + 1, p, h1, h2 => by
    have e : p.1 ≤ w * p.1 + p.2 := by
      have : 0 ≤ (w - 1) * p.1 := Int.mul_nonneg (by omega) (by omega)
      grind
    exact Int.le_trans e (up_ge hw j (w * p.1 + p.2, p.1) (by show 0 ≤ p.1; omega) e)
theorem turnD {ns : List Int} {a b c w : Int} {t : Tb} {p : Int × Int} (hw : 1 ≤ w) (hw3 : w ≤ 3) (bt : Bd p.1 p.2 t) (h1 : 0 ≤ p.2) (h2 : p.2 ≤ p.1) (h3 : p.1 ≤ 1000000) (i : Int) (o4 : Option D) :
    ∃ t' a' b' c' q, Bd (w * p.1 + p.2) p.1 t' ∧ ∀ n, denS (run T (n + 2)) bD [some (.ref 1), some (.int w), some (dT t), some (.int i), o4] (MD ns a b c) = .nx [some (.ref 1), some (.int w), some (dT t'), some (.int i), some (.int q)] (MD ns a' b' c') := by
  obtain ⟨r, a1, b1, c1, hr, e1⟩ := roll0 (ns := ns) (a := a) (b := b) (c := c) (t := 2 * w + 1) (by omega) (by omega)
  obtain ⟨x, a2, b2, c2, hx, e2⟩ := pick_run (ns := ns) (a := a1) (b := b1) (c := c1) (xs := [dT (el (r - w) 0), dT (el (r - w) 1), dT (el (r - w) 2)]) (by simp) (by simp)
  obtain ⟨j, rfl⟩ : ∃ j, x = dT (el (r - w) j) := by
    simp only [List.mem_cons, List.not_mem_nil, or_false] at hx
    rcases hx with h | h | h
    · exact ⟨0, h⟩
    · exact ⟨1, h⟩
    · exact ⟨2, h⟩
  refine ⟨tms (el (r - w) j) t, a2, b2, c2, r - w, bt.step (by omega) hw h1 h2 j, fun n => ?_⟩
  have k2 : b64 2 = true := by decide
  unfold bD
  simp only [tdS_same, tdS_put, ix30, ix31, ix32, ix40, ix41, ix42, ix43, ix20, ix21, Ent.fn, startR, denS, den, asV, asS, asT, consM, lstM, bin2, negM, testM, sel_t, sel_f, selAnd, selOr, selNot, truth_bl, iteM, bandM, borM, Ev.notM, chainM, callM, bltM, partM, partD, sliceM, rng1M, rng2M, tnilM, tconsM, tnmM, noX, Out.bind, Out.st, opt, okk, getR, List.map, List.replicate, List.append, List.length, List.set, Nat.sub, HAppend.hAppend, Append.append, addF, subF, ltM, leM, gtM, geM, eqM, neM, fin, bltF, one, two, onSeq, onInt, onLst, onSome, seqOf, len0, len1, len2, len3, len4, len5, intF, isaF, tyOf, isaT, E.isNo, Bool.not_true, Bool.not_false, mulF_l, k2, e1, negM, tdS_MD']
  rw [newL_ok rfl]
  have e3 : ∀ n, run T (n + 2) 21 [.ref 1, .ref (MD ns a1 b1 c1).nx] ((MD ns a1 b1 c1).new (.lst [.tup [.int 1, .int (r - w), .int 0, .int 1], .tup [.int 1, .int 0, .int (r - w), .int 1], .tup [.int 0, .int (-1), .int 1, .int 0]])) = .ok (dT (el (r - w) j)) ((MD ns a2 b2 c2).new (.lst [dT (el (r - w) 0), dT (el (r - w) 1), dT (el (r - w) 2)])) := e2
  simp only [tdS_same, tdS_put, ix30, ix31, ix32, ix40, ix41, ix42, ix43, ix20, ix21, Ent.fn, startR, denS, den, asV, asS, asT, consM, lstM, bin2, negM, testM, sel_t, sel_f, selAnd, selOr, selNot, truth_bl, iteM, bandM, borM, Ev.notM, chainM, callM, bltM, partM, partD, sliceM, rng1M, rng2M, tnilM, tconsM, tnmM, noX, Out.bind, Out.st, opt, okk, getR, List.map, List.replicate, List.append, List.length, List.set, Nat.sub, HAppend.hAppend, Append.append, addF, subF, ltM, leM, gtM, geM, eqM, neM, fin, bltF, one, two, onSeq, onInt, onLst, onSome, seqOf, len0, len1, len2, len3, len4, len5, intF, isaF, tyOf, isaT, E.isNo, Bool.not_true, Bool.not_false, e3, ltms_run _ _ (el (r - w) j) t (bt.tm h2 h3)]
  rfl
theorem loopD {ns : List Int} {w : Int} (hw : 1 ≤ w) (hw3 : w ≤ 3) : ∀ (j : Nat) (i a b c : Int) (t : Tb) (p : Int × Int) (o3 o4 : Option D), Bd p.1 p.2 t → Okp w j p →
    ∃ t' a' b' c' q3 q4, Bd (up w j p).1 (up w j p).2 t' ∧ ∀ n, forL (fun d ρ m => noX ((den (run T (n + 2)) (.tnm 3)).t d ρ m)) (fun ρ m => denS (run T (n + 2)) bD ρ m) (iota i j) [some (.ref 1), some (.int w), some (dT t), o3, o4] (MD ns a b c) = .nx [some (.ref 1), some (.int w), some (dT t'), q3, q4] (MD ns a' b' c')
  | 0, i, a, b, c, t, p, o3, o4, bt, ok => ⟨t, a, b, c, o3, o4, bt, fun n => rfl⟩
  | j + 1, i, a, b, c, t, p, o3, o4, bt, ok => by
    have e0 := up_ge hw (j + 1) p ok.k ok.M
    have hb := ok.b
    obtain ⟨t1, a1, b1, c1, q, bt1, e1⟩ := turnD (ns := ns) (a := a) (b := b) (c := c) (p := p) hw hw3 bt ok.k ok.M (by omega) i o4
    have e : p.1 ≤ w * p.1 + p.2 := by
      have := ok.k
      have := ok.M
      have : 0 ≤ (w - 1) * p.1 := Int.mul_nonneg (by omega) (by omega)
      grind
    obtain ⟨t2, a2, b2, c2, q3, q4, bt2, e2⟩ := loopD hw hw3 j (i + 1) a1 b1 c1 t1 (w * p.1 + p.2, p.1) (some (.int i)) (some (.int q)) bt1 ⟨by have := ok.k; have := ok.M; show 0 ≤ p.1; omega, e, hb⟩
    refine ⟨t2, a2, b2, c2, q3, q4, bt2, fun n => ?_⟩
    have e3 := e1 n
    show (match denS (run T (n + 2)) bD [some (.ref 1), some (.int w), some (dT t), some (.int i), o4] (MD ns a b c) with
      | .nx ρ' m' => forL (fun d ρ m => noX ((den (run T (n + 2)) (.tnm 3)).t d ρ m)) (fun ρ m => denS (run T (n + 2)) bD ρ m) (iota (i + 1) j) (tdR 2 m' ρ') (tdM 2 m')
      | .cnt ρ' m' => forL (fun d ρ m => noX ((den (run T (n + 2)) (.tnm 3)).t d ρ m)) (fun ρ m => denS (run T (n + 2)) bD ρ m) (iota (i + 1) j) (tdR 2 m' ρ') (tdM 2 m')
      | .brk ρ' m' => .nx ρ' m'
      | .ret d m' => .ret d m'
      | .exc x ρ' m' => .exc x ρ' m'
      | .bad => .bad) = _
    rw [e3]
    exact e2 n
theorem drawn_run {ns : List Int} {a b c w : Int} (hw : 1 ≤ w) (hw3 : w ≤ 3) : ∃ t a' b' c' j, j ≤ 5 ∧ Bd (up w j (1, 0)).1 (up w j (1, 0)).2 t ∧ ∀ n, run T (n + 3) 24 [.ref 1, .int w] (MD ns a b c) = .ok (dT t) (MD ns a' b' c') := by
  obtain ⟨r, a1, b1, c1, hr, e1⟩ := roll0 (ns := ns) (a := a) (b := b) (c := c) (t := 6) (by omega) (by omega)
  have up5 : ∀ j : Nat, j ≤ 5 → (up w j (1, 0)).1 ≤ 1000000 := by
    intro j hj
    have : w = 1 ∨ w = 2 ∨ w = 3 := by omega
    rcases this with rfl | rfl | rfl <;> (have : j = 0 ∨ j = 1 ∨ j = 2 ∨ j = 3 ∨ j = 4 ∨ j = 5 := by omega) <;> rcases this with rfl | rfl | rfl | rfl | rfl | rfl <;> decide
  have hj : r.toNat ≤ 5 := by omega
  obtain ⟨t, a2, b2, c2, q3, q4, bt, e2⟩ := loopD (ns := ns) hw hw3 r.toNat 0 a1 b1 c1 tI (1, 0) none none ⟨rfl, .inl ⟨by decide, by decide, by decide, by decide⟩, .inr ⟨by decide, by decide, by decide, by decide⟩⟩ ⟨by decide, by decide, up5 _ hj⟩
  refine ⟨t, a2, b2, c2, r.toNat, hj, bt, fun n => ?_⟩
  rw [run_at (f := e24.fn) rfl rfl]
  have w1 : denS (run T (n + 2)) (.asg (.tnm 2) (.tup (.cons (.const (.int 1)) (.cons (.const (.int 0)) (.cons (.const (.int 0)) (.cons (.const (.int 1)) .nil)))))) (startR e24.fn [.ref 1, .int w]) (MD ns a b c) = .nx [some (.ref 1), some (.int w), some (dT tI), none, none] (MD ns a b c) := by
    simp only [tdS_same, tdS_put, ix30, ix31, ix32, ix40, ix41, ix42, ix43, ix20, ix21, Ent.fn, startR, denS, den, asV, asS, asT, consM, lstM, bin2, negM, testM, sel_t, sel_f, selAnd, selOr, selNot, truth_bl, iteM, bandM, borM, Ev.notM, chainM, callM, bltM, partM, partD, sliceM, rng1M, rng2M, tnilM, tconsM, tnmM, noX, Out.bind, Out.st, opt, okk, getR, List.map, List.replicate, List.append, List.length, List.set, Nat.sub, HAppend.hAppend, Append.append, addF, subF, ltM, leM, gtM, geM, eqM, neM, fin, bltF, one, two, onSeq, onInt, onLst, onSome, seqOf, len0, len1, len2, len3, len4, len5, intF, isaF, tyOf, isaT, E.isNo, Bool.not_true, Bool.not_false, e24]
    rfl
  have sm : (small 0 && small r) = true := by
    simp only [small, Bool.and_eq_true, decide_eq_true_eq]
    omega
  have w2 : (den (run T (n + 2)) (.rng1 (.call 20 (.cons (.var 0) (.cons (.const (.int 6)) .nil))))).s [some (.ref 1), some (.int w), some (dT tI), none, none] (MD ns a b c) = .ok (.items (iota 0 r.toNat)) (MD ns a1 b1 c1) := by
    simp only [tdS_same, tdS_put, ix30, ix31, ix32, ix40, ix41, ix42, ix43, ix20, ix21, Ent.fn, startR, denS, den, asV, asS, asT, consM, lstM, bin2, negM, testM, sel_t, sel_f, selAnd, selOr, selNot, truth_bl, iteM, bandM, borM, Ev.notM, chainM, callM, bltM, partM, partD, sliceM, rng1M, rng2M, tnilM, tconsM, tnmM, noX, Out.bind, Out.st, opt, okk, getR, List.map, List.replicate, List.append, List.length, List.set, Nat.sub, HAppend.hAppend, Append.append, addF, subF, ltM, leM, gtM, geM, eqM, neM, fin, bltF, one, two, onSeq, onInt, onLst, onSome, seqOf, len0, len1, len2, len3, len4, len5, intF, isaF, tyOf, isaT, E.isNo, Bool.not_true, Bool.not_false, e1, rngI, sm, Int.sub_zero]
  have w3 : denS (run T (n + 2)) (.forr (.tnm 3) (.rng1 (.call 20 (.cons (.var 0) (.cons (.const (.int 6)) .nil)))) bD) [some (.ref 1), some (.int w), some (dT tI), none, none] (MD ns a b c) = .nx [some (.ref 1), some (.int w), some (dT t), q3, q4] (MD ns a2 b2 c2) := by
    show ((den (run T (n + 2)) (.rng1 (.call 20 (.cons (.var 0) (.cons (.const (.int 6)) .nil))))).s [some (.ref 1), some (.int w), some (dT tI), none, none] (MD ns a b c)).st _ _ = _
    rw [w2]
    exact e2 n
  show fin 2 (match denS (run T (n + 2)) (.asg (.tnm 2) (.tup (.cons (.const (.int 1)) (.cons (.const (.int 0)) (.cons (.const (.int 0)) (.cons (.const (.int 1)) .nil)))))) (startR e24.fn [.ref 1, .int w]) (MD ns a b c) with
      | .nx ρ' m' => (match denS (run T (n + 2)) (.forr (.tnm 3) (.rng1 (.call 20 (.cons (.var 0) (.cons (.const (.int 6)) .nil)))) bD) ρ' (tdS 2 ρ' m') with | .nx ρ'' m'' => denS (run T (n + 2)) (.seq (.ret (.var 2)) .skip) ρ'' (tdS (tdS 2 ρ' m').nx ρ'' m'') | o => o)
      | o => o) = _
  rw [w1]
  dsimp only
  rw [tdS_MD, w3]
  dsimp only
  rw [tdS_MD']
  simp only [tdS_same, tdS_put, ix30, ix31, ix32, ix40, ix41, ix42, ix43, ix20, ix21, Ent.fn, startR, denS, den, asV, asS, asT, consM, lstM, bin2, negM, testM, sel_t, sel_f, selAnd, selOr, selNot, truth_bl, iteM, bandM, borM, Ev.notM, chainM, callM, bltM, partM, partD, sliceM, rng1M, rng2M, tnilM, tconsM, tnmM, noX, Out.bind, Out.st, opt, okk, getR, List.map, List.replicate, List.append, List.length, List.set, Nat.sub, HAppend.hAppend, Append.append, addF, subF, ltM, leM, gtM, geM, eqM, neM, fin, bltF, one, two, onSeq, onInt, onLst, onSome, seqOf, len0, len1, len2, len3, len4, len5, intF, isaF, tyOf, isaT, E.isNo, Bool.not_true, Bool.not_false]
  exact finM_same (m := MD ns a2 b2 c2)
/-- a drawn table of small steps -/
theorem drawn2 {ns : List Int} {a b c : Int} : ∃ t a' b' c', Bd 70 70 t ∧ ∀ n, run T (n + 3) 24 [.ref 1, .int 2] (MD ns a b c) = .ok (dT t) (MD ns a' b' c') := by
  obtain ⟨t, a', b', c', j, hj, bt, h⟩ := drawn_run (ns := ns) (a := a) (b := b) (c := c) (w := 2) (by omega) (by omega)
  refine ⟨t, a', b', c', ?_, h⟩
  have : j = 0 ∨ j = 1 ∨ j = 2 ∨ j = 3 ∨ j = 4 ∨ j = 5 := by omega
  rcases this with rfl | rfl | rfl | rfl | rfl | rfl <;> exact ⟨bt.det, bt.l.mono (by decide) (by decide), bt.r.mono (by decide) (by decide)⟩
theorem drawn3 {ns : List Int} {a b c : Int} : ∃ t a' b' c', Bd 1000 1000 t ∧ ∀ n, run T (n + 3) 24 [.ref 1, .int 3] (MD ns a b c) = .ok (dT t) (MD ns a' b' c') := by
  obtain ⟨t, a', b', c', j, hj, bt, h⟩ := drawn_run (ns := ns) (a := a) (b := b) (c := c) (w := 3) (by omega) (by omega)
  refine ⟨t, a', b', c', ?_, h⟩
  have : j = 0 ∨ j = 1 ∨ j = 2 ∨ j = 3 ∨ j = 4 ∨ j = 5 := by omega
  rcases this with rfl | rfl | rfl | rfl | rfl | rfl <;> exact ⟨bt.det, bt.l.mono (by decide) (by decide), bt.r.mono (by decide) (by decide)⟩
/-- a drawn shape -/
structure Bs (x : Sh) : Prop where
  a : 1 ≤ x.a ∧ x.a ≤ 9
  b : -x.a ≤ x.b ∧ x.b ≤ x.a
  c : x.a ≤ x.c ∧ x.c ≤ 26
theorem sh_run {ns : List Int} {a b c : Int} : ∃ x a' b' c', Bs x ∧ ∀ n, run T (n + 2) 27 [.ref 1, .int 9] (MD ns a b c) = .ok (dS x) (MD ns a' b' c') := by
  obtain ⟨r1, a1, b1, c1, h1, e1⟩ := roll0 (ns := ns) (a := a) (b := b) (c := c) (t := 9) (by omega) (by omega)
  obtain ⟨r2, a2, b2, c2, h2, e2⟩ := roll0 (ns := ns) (a := a1) (b := b1) (c := c1) (t := 2 * 9) (by omega) (by omega)
  obtain ⟨r3, a3, b3, c3, h3, e3⟩ := roll0 (ns := ns) (a := a2) (b := b2) (c := c2) (t := 2 * (1 + r1)) (by omega) (by omega)
  have k2 : b64 2 = true := by decide
  refine ⟨⟨1 + r1, if 1 + r1 + r2 = 1 + r1 then absI (r3 + 1 - (1 + r1)) else r3 + 1 - (1 + r1), 1 + r1 + r2⟩, a3, b3, c3, ?_, fun n => ?_⟩
  · unfold absI
    refine ⟨⟨by dsimp only; omega, by dsimp only; omega⟩, ?_, ⟨by dsimp only; omega, by dsimp only; omega⟩⟩
    dsimp only
    split <;> (try split) <;> omega
  · rw [run_at (f := e27.fn) rfl rfl]
    simp only [tdS_same, tdS_put, ix30, ix31, ix32, ix40, ix41, ix42, ix43, ix20, ix21, Ent.fn, startR, denS, den, asV, asS, asT, consM, lstM, bin2, negM, testM, sel_t, sel_f, selAnd, selOr, selNot, truth_bl, iteM, bandM, borM, Ev.notM, chainM, callM, bltM, partM, partD, sliceM, rng1M, rng2M, tnilM, tconsM, tnmM, noX, Out.bind, Out.st, opt, okk, getR, List.map, List.replicate, List.append, List.length, List.set, Nat.sub, HAppend.hAppend, Append.append, addF, subF, ltM, leM, gtM, geM, eqM, neM, fin, bltF, one, two, onSeq, onInt, onLst, onSome, seqOf, len0, len1, len2, len3, len4, len5, intF, isaF, tyOf, isaT, E.isNo, Bool.not_true, Bool.not_false, e27, mulF_l, k2, e1, e2, e3, tdS_MD']
    by_cases h : 1 + r1 + r2 = 1 + r1
    · simp only [tdS_same, tdS_put, ix30, ix31, ix32, ix40, ix41, ix42, ix43, ix20, ix21, Ent.fn, startR, denS, den, asV, asS, asT, consM, lstM, bin2, negM, testM, sel_t, sel_f, selAnd, selOr, selNot, truth_bl, iteM, bandM, borM, Ev.notM, chainM, callM, bltM, partM, partD, sliceM, rng1M, rng2M, tnilM, tconsM, tnmM, noX, Out.bind, Out.st, opt, okk, getR, List.map, List.replicate, List.append, List.length, List.set, Nat.sub, HAppend.hAppend, Append.append, addF, subF, ltM, leM, gtM, geM, eqM, neM, fin, bltF, one, two, onSeq, onInt, onLst, onSome, seqOf, len0, len1, len2, len3, len4, len5, intF, isaF, tyOf, isaT, E.isNo, Bool.not_true, Bool.not_false, decide_eq_true h]
      rw [if_pos h]
      exact finM_same (m := MD ns a3 b3 c3)
    · simp only [tdS_same, tdS_put, ix30, ix31, ix32, ix40, ix41, ix42, ix43, ix20, ix21, Ent.fn, startR, denS, den, asV, asS, asT, consM, lstM, bin2, negM, testM, sel_t, sel_f, selAnd, selOr, selNot, truth_bl, iteM, bandM, borM, Ev.notM, chainM, callM, bltM, partM, partD, sliceM, rng1M, rng2M, tnilM, tconsM, tnmM, noX, Out.bind, Out.st, opt, okk, getR, List.map, List.replicate, List.append, List.length, List.set, Nat.sub, HAppend.hAppend, Append.append, addF, subF, ltM, leM, gtM, geM, eqM, neM, fin, bltF, one, two, onSeq, onInt, onLst, onSome, seqOf, len0, len1, len2, len3, len4, len5, intF, isaF, tyOf, isaT, E.isNo, Bool.not_true, Bool.not_false, decide_eq_false h]
      rw [if_neg h]
      exact finM_same (m := MD ns a3 b3 c3)
/-- shapes as the law draws them -/
structure Gd (x : Sh) : Prop where
  ok : okS x = true
  d : disc x ≤ 936
theorem Bs.disc {x : Sh} (h : Bs x) : 0 < Pf.disc x ∧ Pf.disc x ≤ 936 := by
  obtain ⟨⟨a1, a2⟩, ⟨b1, b2⟩, ⟨c1, c2⟩⟩ := h
  have h1 : x.a * x.c ≤ 9 * 26 := mul_le' a2 c2 (by omega) (by omega)
  have h2 := sq_nn x.b
  have h3 : x.a * x.a ≤ x.a * x.c := Int.mul_le_mul_of_nonneg_left c1 (by omega)
  have h4 : 0 ≤ (x.a - x.b) * (x.a + x.b) := Int.mul_nonneg (by omega) (by omega)
  have h5 : 1 ≤ x.a * x.a := by
    have := Int.mul_nonneg (show 0 ≤ x.a - 1 by omega) (show 0 ≤ x.a + 1 by omega)
    grind
  unfold Pf.disc
  constructor <;> grind
theorem led_a {x : Sh} {t : Tb} (ha : 0 < x.a) (d : 0 < Pf.disc x) (h : Pf.det t = 1) : 0 < (led x t).a := by
  have e := sq_r x t
  have h1 := sq_nn (2 * x.a * t.p + x.b * t.r)
  have hpos : 0 < 4 * x.a * (led x t).a := by
    by_cases hr : t.r = 0
    · have hp : t.p ≠ 0 := fun hp => by
        unfold Pf.det at h
        rw [hr, hp] at h
        omega
      have hv : 2 * x.a * t.p + x.b * t.r ≠ 0 := by
        rw [hr, Int.mul_zero, Int.add_zero]
        exact Int.mul_ne_zero (by omega) hp
      have h2 : 0 < (2 * x.a * t.p + x.b * t.r) * (2 * x.a * t.p + x.b * t.r) := by
        rcases Int.lt_or_gt_of_ne hv with h | h
        · have := Int.mul_pos (show 0 < -(2 * x.a * t.p + x.b * t.r) by omega) (show 0 < -(2 * x.a * t.p + x.b * t.r) by omega)
          grind
        · exact Int.mul_pos h h
      rw [hr] at e h2
      simp only [Int.mul_zero, Int.add_zero] at e h2
      omega
    · have h2 : 0 < t.r * t.r := by
        rcases Int.lt_or_gt_of_ne hr with h | h
        · have := Int.mul_pos (show 0 < -t.r by omega) (show 0 < -t.r by omega)
          grind
        · exact Int.mul_pos h h
      have := Int.mul_pos d h2
      omega
  refine Classical.byContradiction fun hn => ?_
  have : 4 * x.a * (led x t).a ≤ 0 := Int.mul_nonpos_of_nonneg_of_nonpos (by omega) (by omega)
  omega
theorem mul3 {a p q : Int} (ha : 0 ≤ a ∧ a ≤ 26) (hp : -70 ≤ p ∧ p ≤ 70) (hq : -70 ≤ q ∧ q ≤ 70) : -127400 ≤ a * p * q ∧ a * p * q ≤ 127400 := by
  have h1 := mulb (w := 26) (k := 70) ⟨by omega, ha.2⟩ hp (by omega) (by omega)
  have h2 := mulb (w := 1820) (k := 70) ⟨by omega, by omega⟩ hq (by omega) (by omega) (m := a * p)
  omega
theorem led_good {x : Sh} {t : Tb} (hx : Bs x) (ht : Bd 70 70 t) : Gd (led x t) := by
  obtain ⟨d1, d2⟩ := hx.disc
  have hd : disc (led x t) = disc x := by rw [disc_led, ht.det]; omega
  have hp : (-70 ≤ t.p ∧ t.p ≤ 70) ∧ (-70 ≤ t.r ∧ t.r ≤ 70) := by have := ht.l; unfold In at this; omega
  have hq : (-70 ≤ t.q ∧ t.q ≤ 70) ∧ (-70 ≤ t.s ∧ t.s ≤ 70) := by have := ht.r; unfold In at this; omega
  obtain ⟨⟨a1, a2⟩, ⟨b1, b2⟩, ⟨c1, c2⟩⟩ := hx
  have ha : 0 ≤ x.a ∧ x.a ≤ 26 := ⟨by omega, by omega⟩
  have hc : 0 ≤ x.c ∧ x.c ≤ 26 := ⟨by omega, by omega⟩
  have b3 : ∀ {p q : Int}, (-70 ≤ p ∧ p ≤ 70) → (-70 ≤ q ∧ q ≤ 70) → -44100 ≤ x.b * p * q ∧ x.b * p * q ≤ 44100 := by
    intro p q hp hq
    have h1 := mulb (w := 9) (k := 70) (m := x.b) ⟨by omega, by omega⟩ hp (by omega) (by omega)
    have h2 := mulb (w := 630) (k := 70) (m := x.b * p) ⟨by omega, by omega⟩ hq (by omega) (by omega)
    omega
  have k1 := mul3 ha hp.1 hp.1
  have k2 := b3 hp.1 hp.2
  have k3 := mul3 hc hp.2 hp.2
  have k4 := mul3 ha hp.1 hq.1
  have k5 := b3 hp.1 hq.2
  have k6 := b3 hq.1 hp.2
  have k7 := mul3 hc hp.2 hq.2
  have k8 := mul3 ha hq.1 hq.1
  have k9 := b3 hq.1 hq.2
  have k10 := mul3 hc hq.2 hq.2
  have e1 : 2 * x.a * t.p * t.q + x.b * (t.p * t.s + t.q * t.r) + 2 * x.c * t.r * t.s = 2 * (x.a * t.p * t.q) + (x.b * t.p * t.s + x.b * t.q * t.r) + 2 * (x.c * t.r * t.s) := by grind
  have z1 : inE (led x t).a = true := by
    show inE (x.a * t.p * t.p + x.b * t.p * t.r + x.c * t.r * t.r) = true
    simp only [inE, Bool.and_eq_true, decide_eq_true_eq]
    omega
  have z2 : inE (led x t).b = true := by
    show inE (2 * x.a * t.p * t.q + x.b * (t.p * t.s + t.q * t.r) + 2 * x.c * t.r * t.s) = true
    rw [e1]
    simp only [inE, Bool.and_eq_true, decide_eq_true_eq]
    omega
  have z3 : inE (led x t).c = true := by
    show inE (x.a * t.q * t.q + x.b * t.q * t.s + x.c * t.s * t.s) = true
    simp only [inE, Bool.and_eq_true, decide_eq_true_eq]
    omega
  refine ⟨?_, by rw [hd]; exact d2⟩
  unfold okS
  rw [z1, z2, z3]
  simp only [Bool.and_self, Bool.and_eq_true, decide_eq_true_eq]
  exact ⟨led_a (by omega) d1 ht.det, by rw [hd]; exact d1⟩
theorem turned_good {x : Sh} (hx : Bs x) : Gd ⟨x.a, 0 - x.b, x.c⟩ := by
  obtain ⟨d1, d2⟩ := hx.disc
  obtain ⟨⟨a1, a2⟩, ⟨b1, b2⟩, ⟨c1, c2⟩⟩ := hx
  have hd : disc ⟨x.a, 0 - x.b, x.c⟩ = disc x := by unfold disc; dsimp only; grind
  refine ⟨?_, by rw [hd]; exact d2⟩
  have z1 : inE x.a = true := by simp only [inE, Bool.and_eq_true, decide_eq_true_eq]; omega
  have z2 : inE (0 - x.b) = true := by simp only [inE, Bool.and_eq_true, decide_eq_true_eq]; omega
  have z3 : inE x.c = true := by simp only [inE, Bool.and_eq_true, decide_eq_true_eq]; omega
  unfold okS
  dsimp only
  rw [z1, z2, z3, hd]
  simp only [Bool.and_self, Bool.and_eq_true, decide_eq_true_eq]
  exact ⟨by omega, d1⟩
theorem red_good {x x' : Sh} {t : Tb} (g : Gd x) (r : Rd x x' t) : okS x' = true := by
  have i := r.inv
  have hr := (isRed_iff x').mp r.red
  have hd : disc x' = disc x := i.disc
  have h5 := (okS_a i.ok).2.2.2.2
  have ha := i.a
  have hc : 0 < x'.c := c_pos ha (by rw [hd]; exact h5)
  have gd := g.d
  have hb : x'.b * x'.b ≤ x'.a * x'.c := by
    have h1 : -x'.a ≤ x'.b ∧ x'.b ≤ x'.a := by
      have := hr.1.1
      unfold absI at this
      split at this <;> omega
    have h2 : 0 ≤ (x'.a - x'.b) * (x'.a + x'.b) := Int.mul_nonneg (by omega) (by omega)
    have h3 : x'.a * x'.a ≤ x'.a * x'.c := Int.mul_le_mul_of_nonneg_left hr.1.2 (by omega)
    grind
  have hac : x'.a * x'.c ≤ 312 := by
    rw [← hd] at gd
    unfold disc at gd
    grind
  have hcc : x'.c ≤ x'.a * x'.c := by
    have : 0 ≤ (x'.a - 1) * x'.c := Int.mul_nonneg (by omega) (by omega)
    grind
  have hb2 := i.b
  have ha2 := i.a2
  have z1 : inE x'.a = true := by simp only [inE, Bool.and_eq_true, decide_eq_true_eq]; omega
  have z2 : inE x'.b = true := by simp only [inE, Bool.and_eq_true, decide_eq_true_eq]; omega
  have z3 : inE x'.c = true := by simp only [inE, Bool.and_eq_true, decide_eq_true_eq]; omega
  unfold okS
  rw [z1, z2, z3, hd]
  simp only [Bool.and_self, Bool.and_eq_true, decide_eq_true_eq]
  exact ⟨ha, h5⟩
end Pf

set_option Elab.async false
set_option linter.all false
set_option maxRecDepth 100000
set_option maxHeartbeats 1000000
namespace Pf
open PySem L2 Ev
section
variable {x x' y y' : Sh} {t u v : Tb} {n : Nat} {ns : List Int} {a b c a' b' c' : Int}
theorem lst_tup {m : Mem} {xs : List D} (h : Nat.ble xs.length 16000000 = true) : bltF .list [.tup xs] m = .ok (.ref m.nx) (m.new (.lst xs)) := by
  show newL xs m = _
  exact newL_ok h
theorem catL {m : Mem} {p q : Nat} {xs ys : List D} (h1 : m.get p = some (.lst xs)) (h2 : m.get q = some (.lst ys)) (h : Nat.ble (xs ++ ys).length 16000000 = true) : binF .add (.ref p) (.ref q) m = .ok (.ref m.nx) (m.new (.lst (xs ++ ys))) := by
  show (match m.get p with
      | some (.lst x) => (match m.get q with | some (.lst y) => newL (x ++ y) m | _ => .bad)
      | _ => .bad) = _
  rw [h1, h2]
  exact newL_ok h
def tA (x' y' : Sh) : D := .tup [.str "apart", dS x', dS y']
def l1 (x' y' : Sh) (v : Tb) : List D := [tA x' y', .ref 2, .tup [.str "apart", dS x', dS y', .int 0], .tup [.str "apart"], .tup [.str "by", dT v], .tup [.str "by", .ref 3], .tup [.str "by", .tup [.int v.p, .int v.q, .int v.r]], .tup [.str "by"]]
def l2 (x y x' y' : Sh) : List D := [.tup [.str "apart", dS x', dS y'], .tup [.str "apart", dS y', dS x'], .tup [.str "apart", dS x, dS y], .tup [.str "apart"], .non, .tup [], .str "by"]
def l3 (x' y' : Sh) : List D := [.tup [.str "by", dT tI], .tup [.str "by", .tup [.bl true, .int 0, .int 0, .int 1]], .tup [.str "by", .tup [.int 1, .int 0, .int 0, .int (-1)]], .tup [.str "apart", .ref 7, dS y']]
def mA (ns : List Int) (a b c : Int) (x y x' y' : Sh) (v : Tb) : Mem :=
  ⟨10, [(9, .lst ((l1 x' y' v ++ l2 x y x' y') ++ l3 x' y')), (8, .lst (l3 x' y')), (7, .lst [.int x'.a, .int x'.b, .int x'.c]), (6, .lst (l1 x' y' v ++ l2 x y x' y')), (5, .lst (l2 x y x' y')), (4, .lst (l1 x' y' v)), (3, .lst [.int v.p, .int v.q, .int v.r, .int v.s]), (2, .lst [.str "apart", dS x', dS y']), (1, dL a b c), (0, .scr ns)]⟩
theorem newL3 {m : Mem} {d1 d2 d3 : D} : newL [d1, d2, d3] m = .ok (.ref m.nx) (m.new (.lst [d1, d2, d3])) := newL_ok rfl
theorem newL4 {m : Mem} {d1 d2 d3 d4 : D} : newL [d1, d2, d3, d4] m = .ok (.ref m.nx) (m.new (.lst [d1, d2, d3, d4])) := newL_ok rfl
theorem newL7 {m : Mem} {d1 d2 d3 d4 d5 d6 d7 : D} : newL [d1, d2, d3, d4, d5, d6, d7] m = .ok (.ref m.nx) (m.new (.lst [d1, d2, d3, d4, d5, d6, d7])) := newL_ok rfl
theorem newL8 {m : Mem} {d1 d2 d3 d4 d5 d6 d7 d8 : D} : newL [d1, d2, d3, d4, d5, d6, d7, d8] m = .ok (.ref m.nx) (m.new (.lst [d1, d2, d3, d4, d5, d6, d7, d8])) := newL_ok rfl
theorem sl_1 {m : Mem} {d1 d2 d3 : D} : sliceF (.tup [d1, d2, d3]) none (some 1) m = .ok (.tup [d1]) m := rfl
theorem sl_12 {m : Mem} {d1 d2 : D} : sliceF (.tup [d1, d2]) none (some 1) m = .ok (.tup [d1]) m := rfl
theorem sl_3 {m : Mem} {d1 d2 d3 d4 : D} : sliceF (.tup [d1, d2, d3, d4]) none (some 3) m = .ok (.tup [d1, d2, d3]) m := rfl
theorem add1 {m : Mem} {d1 d2 d3 d4 : D} : binF .add (.tup [d1, d2, d3]) (.tup [d4]) m = .ok (.tup [d1, d2, d3, d4]) m := rfl
theorem add12 {m : Mem} {d1 d2 d4 : D} : binF .add (.tup [d1, d2]) (.tup [d4]) m = .ok (.tup [d1, d2, d4]) m := rfl
theorem near_ap (r : Rd x x' t) (q : Rd y y' u) (hd : ∀ n, run T (n + 3) 24 [.ref 1, .int 3] (MD ns a b c) = .ok (dT v) (MD ns a' b' c')) : run T (n + 4) 31 [.ref 1, dS x, dS y, tA x' y'] (MD ns a b c) = .ok (.ref 9) (mA ns a' b' c' x y x' y' v) := by
  rw [run_at (f := e31.fn) rfl rfl]
  have hA : tA x' y' = .tup [.str "apart", dS x', dS y'] := rfl
  have hv : dT v = .tup [.int v.p, .int v.q, .int v.r, .int v.s] := rfl
  have hx' : dS x' = .tup [.int x'.a, .int x'.b, .int x'.c] := rfl
  simp only [tdS_same, tdS_put, ix30, ix31, ix32, ix40, ix41, ix42, ix43, ix20, ix21, Ent.fn, startR, denS, den, asV, asS, asT, consM, lstM, bin2, negM, testM, sel_t, sel_f, selAnd, selOr, selNot, truth_bl, iteM, bandM, borM, Ev.notM, chainM, callM, bltM, partM, partD, sliceM, rng1M, rng2M, tnilM, tconsM, tnmM, noX, Out.bind, Out.st, opt, okk, getR, List.map, List.replicate, List.append, List.length, List.set, Nat.sub, HAppend.hAppend, Append.append, addF, subF, ltM, leM, gtM, geM, eqM, neM, fin, bltF, one, two, onSeq, onInt, onLst, onSome, seqOf, len0, len1, len2, len3, len4, len5, intF, isaF, tyOf, isaT, E.isNo, Bool.not_true, Bool.not_false, e31, hd, (r.run _ _).1, (q.run _ _).1, hA, sl_1, sl_3, add1, hv, newL3, newL4, newL7, newL8, negM]
  rw [catL rfl rfl rfl]
  simp only [tdS_same, tdS_put, ix30, ix31, ix32, ix40, ix41, ix42, ix43, ix20, ix21, Ent.fn, startR, denS, den, asV, asS, asT, consM, lstM, bin2, negM, testM, sel_t, sel_f, selAnd, selOr, selNot, truth_bl, iteM, bandM, borM, Ev.notM, chainM, callM, bltM, partM, partD, sliceM, rng1M, rng2M, tnilM, tconsM, tnmM, noX, Out.bind, Out.st, opt, okk, getR, List.map, List.replicate, List.append, List.length, List.set, Nat.sub, HAppend.hAppend, Append.append, addF, subF, ltM, leM, gtM, geM, eqM, neM, fin, bltF, one, two, onSeq, onInt, onLst, onSome, seqOf, len0, len1, len2, len3, len4, len5, intF, isaF, tyOf, isaT, E.isNo, Bool.not_true, Bool.not_false, hx', newL3, newL4, negM]
  rw [catL rfl rfl rfl]
  simp only [tdS_same, tdS_put, ix30, ix31, ix32, ix40, ix41, ix42, ix43, ix20, ix21, Ent.fn, startR, denS, den, asV, asS, asT, consM, lstM, bin2, negM, testM, sel_t, sel_f, selAnd, selOr, selNot, truth_bl, iteM, bandM, borM, Ev.notM, chainM, callM, bltM, partM, partD, sliceM, rng1M, rng2M, tnilM, tconsM, tnmM, noX, Out.bind, Out.st, opt, okk, getR, List.map, List.replicate, List.append, List.length, List.set, Nat.sub, HAppend.hAppend, Append.append, addF, subF, ltM, leM, gtM, geM, eqM, neM, fin, bltF, one, two, onSeq, onInt, onLst, onSome, seqOf, len0, len1, len2, len3, len4, len5, intF, isaF, tyOf, isaT, E.isNo, Bool.not_true, Bool.not_false, ap_by]
  kernel_rfl
def tB (z : Tb) : D := .tup [.str "by", dT z]
def b1 (z v : Tb) : List D := [tB z, .ref 2, .tup [.str "by", dT z, .int 0], .tup [.str "by"], .tup [.str "by", dT v], .tup [.str "by", .ref 3], .tup [.str "by", .tup [.int v.p, .int v.q, .int v.r]], .tup [.str "by"]]
def b4 (z : Tb) : List D := [.tup [.str "by", dT ⟨0 - z.p, 0 - z.q, 0 - z.r, 0 - z.s⟩], .tup [.str "by", dT ⟨z.s, 0 - z.q, 0 - z.r, z.p⟩], .tup [.str "by", dT ⟨z.p, z.q, z.r, z.s + 1⟩]]
def mB (ns : List Int) (a b c : Int) (x y x' y' : Sh) (z v : Tb) : Mem :=
  ⟨12, [(11, .lst (((b1 z v ++ l2 x y x' y') ++ l3 x' y') ++ b4 z)), (10, .lst (b4 z)), (9, .lst ((b1 z v ++ l2 x y x' y') ++ l3 x' y')), (8, .lst (l3 x' y')), (7, .lst [.int x'.a, .int x'.b, .int x'.c]), (6, .lst (b1 z v ++ l2 x y x' y')), (5, .lst (l2 x y x' y')), (4, .lst (b1 z v)), (3, .lst [.int v.p, .int v.q, .int v.r, .int v.s]), (2, .lst [.str "by", dT z]), (1, dL a b c), (0, .scr ns)]⟩
theorem newL2 {m : Mem} {d1 d2 : D} : newL [d1, d2] m = .ok (.ref m.nx) (m.new (.lst [d1, d2])) := newL_ok rfl
theorem near_by {z : Tb} (r : Rd x x' t) (q : Rd y y' u) (hd : ∀ n, run T (n + 3) 24 [.ref 1, .int 3] (MD ns a b c) = .ok (dT v) (MD ns a' b' c')) : run T (n + 4) 31 [.ref 1, dS x, dS y, tB z] (MD ns a b c) = .ok (.ref 11) (mB ns a' b' c' x y x' y' z v) := by
  rw [run_at (f := e31.fn) rfl rfl]
  have hA : tB z = .tup [.str "by", dT z] := rfl
  have hv : dT v = .tup [.int v.p, .int v.q, .int v.r, .int v.s] := rfl
  have hz : dT z = .tup [.int z.p, .int z.q, .int z.r, .int z.s] := rfl
  have hx' : dS x' = .tup [.int x'.a, .int x'.b, .int x'.c] := rfl
  simp only [tdS_same, tdS_put, ix30, ix31, ix32, ix40, ix41, ix42, ix43, ix20, ix21, Ent.fn, startR, denS, den, asV, asS, asT, consM, lstM, bin2, negM, testM, sel_t, sel_f, selAnd, selOr, selNot, truth_bl, iteM, bandM, borM, Ev.notM, chainM, callM, bltM, partM, partD, sliceM, rng1M, rng2M, tnilM, tconsM, tnmM, noX, Out.bind, Out.st, opt, okk, getR, List.map, List.replicate, List.append, List.length, List.set, Nat.sub, HAppend.hAppend, Append.append, addF, subF, ltM, leM, gtM, geM, eqM, neM, fin, bltF, one, two, onSeq, onInt, onLst, onSome, seqOf, len0, len1, len2, len3, len4, len5, intF, isaF, tyOf, isaT, E.isNo, Bool.not_true, Bool.not_false, e31, hd, (r.run _ _).1, (q.run _ _).1, hA, sl_12, sl_3, add12, hv, hz, newL2, newL3, newL4, newL7, newL8, negM]
  rw [catL rfl rfl rfl]
  simp only [tdS_same, tdS_put, ix30, ix31, ix32, ix40, ix41, ix42, ix43, ix20, ix21, Ent.fn, startR, denS, den, asV, asS, asT, consM, lstM, bin2, negM, testM, sel_t, sel_f, selAnd, selOr, selNot, truth_bl, iteM, bandM, borM, Ev.notM, chainM, callM, bltM, partM, partD, sliceM, rng1M, rng2M, tnilM, tconsM, tnmM, noX, Out.bind, Out.st, opt, okk, getR, List.map, List.replicate, List.append, List.length, List.set, Nat.sub, HAppend.hAppend, Append.append, addF, subF, ltM, leM, gtM, geM, eqM, neM, fin, bltF, one, two, onSeq, onInt, onLst, onSome, seqOf, len0, len1, len2, len3, len4, len5, intF, isaF, tyOf, isaT, E.isNo, Bool.not_true, Bool.not_false, hx', newL3, newL4, negM]
  rw [catL rfl rfl rfl]
  simp only [tdS_same, tdS_put, ix30, ix31, ix32, ix40, ix41, ix42, ix43, ix20, ix21, Ent.fn, startR, denS, den, asV, asS, asT, consM, lstM, bin2, negM, testM, sel_t, sel_f, selAnd, selOr, selNot, truth_bl, iteM, bandM, borM, Ev.notM, chainM, callM, bltM, partM, partD, sliceM, rng1M, rng2M, tnilM, tconsM, tnmM, noX, Out.bind, Out.st, opt, okk, getR, List.map, List.replicate, List.append, List.length, List.set, Nat.sub, HAppend.hAppend, Append.append, addF, subF, ltM, leM, gtM, geM, eqM, neM, fin, bltF, one, two, onSeq, onInt, onLst, onSome, seqOf, len0, len1, len2, len3, len4, len5, intF, isaF, tyOf, isaT, E.isNo, Bool.not_true, Bool.not_false, by_by, newL3]
  rw [catL rfl rfl rfl]
  simp only [tdS_same, tdS_put, ix30, ix31, ix32, ix40, ix41, ix42, ix43, ix20, ix21, Ent.fn, startR, denS, den, asV, asS, asT, consM, lstM, bin2, negM, testM, sel_t, sel_f, selAnd, selOr, selNot, truth_bl, iteM, bandM, borM, Ev.notM, chainM, callM, bltM, partM, partD, sliceM, rng1M, rng2M, tnilM, tconsM, tnmM, noX, Out.bind, Out.st, opt, okk, getR, List.map, List.replicate, List.append, List.length, List.set, Nat.sub, HAppend.hAppend, Append.append, addF, subF, ltM, leM, gtM, geM, eqM, neM, fin, bltF, one, two, onSeq, onInt, onLst, onSome, seqOf, len0, len1, len2, len3, len4, len5, intF, isaF, tyOf, isaT, E.isNo, Bool.not_true, Bool.not_false]
  kernel_rfl
end
end Pf

set_option Elab.async false
set_option linter.all false
set_option maxRecDepth 100000
set_option maxHeartbeats 1000000
namespace Pf
open PySem L2 Ev
/-! tables between drawn shapes are small -/
def Le (i : Int) : Prop := -40000 ≤ i ∧ i ≤ 40000
theorem sq_le {i : Int} (h : i * i ≤ 1300000000) : Le i := by
  unfold Le
  constructor
  · refine Classical.byContradiction fun hn => ?_
    have := Int.mul_le_mul (show 40001 ≤ -i by omega) (show 40001 ≤ -i by omega) (by omega) (by omega)
    have e : -i * -i = i * i := by grind
    omega
  · refine Classical.byContradiction fun hn => ?_
    have := Int.mul_le_mul (show 40001 ≤ i by omega) (show 40001 ≤ i by omega) (by omega) (by omega)
    omega
structure Tl (t : Tb) : Prop where
  p : Le t.p
  q : Le t.q
  r : Le t.r
  s : Le t.s
theorem red_small {x x' : Sh} {t : Tb} (g : Gd x) (r : Rd x x' t) : x'.a ≤ 312 ∧ x'.c ≤ 312 := by
  have i := r.inv
  have hr := (isRed_iff x').mp r.red
  have hd : disc x' = disc x := i.disc
  have h5 := (okS_a i.ok).2.2.2.2
  have ha := i.a
  have hc : 0 < x'.c := c_pos ha (by rw [hd]; exact h5)
  have gd := g.d
  have hb : x'.b * x'.b ≤ x'.a * x'.c := by
    have h1 : -x'.a ≤ x'.b ∧ x'.b ≤ x'.a := by
      have := hr.1.1
      unfold absI at this
      split at this <;> omega
    have h2 : 0 ≤ (x'.a - x'.b) * (x'.a + x'.b) := Int.mul_nonneg (by omega) (by omega)
    have h3 : x'.a * x'.a ≤ x'.a * x'.c := Int.mul_le_mul_of_nonneg_left hr.1.2 (by omega)
    grind
  have hac : x'.a * x'.c ≤ 312 := by
    rw [← hd] at gd
    unfold disc at gd
    grind
  have hcc : x'.c ≤ x'.a * x'.c := by
    have : 0 ≤ (x'.a - 1) * x'.c := Int.mul_nonneg (by omega) (by omega)
    grind
  have := hr.1.2
  omega
theorem red_tl {x x' : Sh} {t : Tb} (g : Gd x) (r : Rd x x' t) : Tl t := by
  have i := r.inv
  obtain ⟨h1, h2, h3, h4, h5⟩ := okS_a i.ok
  have hc0 := c_pos h4 h5
  have ha := i.a
  have hcx : 0 < x'.c := c_pos ha (by rw [i.disc]; exact h5)
  obtain ⟨s1, s2⟩ := red_small g r
  simp only [inE, Bool.and_eq_true, decide_eq_true_eq] at h1 h2 h3
  have e1 := sq_p x t
  have e2 := sq_q x t
  have e3 := sq_r x t
  have e4 := sq_s x t
  rw [i.led] at e1 e2 e3 e4
  have k1 := part_le (by omega) e1
  have k2 := part_le (by omega) e2
  have k3 := part_le (by omega) e3
  have k4 := part_le (by omega) e4
  have b1 : x.c * x'.a ≤ 1000000 * 312 := mul_le' h3.2 s1 (by omega) (by omega)
  have b2 : x.c * x'.c ≤ 1000000 * 312 := mul_le' h3.2 s2 (by omega) (by omega)
  have b3 : x.a * x'.a ≤ 1000000 * 312 := mul_le' h1.2 s1 (by omega) (by omega)
  have b4 : x.a * x'.c ≤ 1000000 * 312 := mul_le' h1.2 s2 (by omega) (by omega)
  refine ⟨sq_le ?_, sq_le ?_, sq_le ?_, sq_le ?_⟩ <;> grind
theorem le_mul {a b : Int} (h : Le a) (k : Le b) : -1600000000 ≤ a * b ∧ a * b ≤ 1600000000 := by
  have := mulb (w := 40000) (k := 40000) h k (by omega) (by omega)
  omega
def Lb (i : Int) : Prop := -4000000000 ≤ i ∧ i ≤ 4000000000
structure Tz (t : Tb) : Prop where
  p : Lb t.p
  q : Lb t.q
  r : Lb t.r
  s : Lb t.s
theorem tl_back {t : Tb} (h : Tl t) : Tl (backT t) := by
  obtain ⟨a, b, c, d⟩ := h
  unfold Le at *
  exact ⟨d, by show -40000 ≤ 0 - t.q ∧ 0 - t.q ≤ 40000; omega, by show -40000 ≤ 0 - t.r ∧ 0 - t.r ≤ 40000; omega, a⟩
theorem tl_tms {t u : Tb} (h : Tl t) (k : Tl u) : Tz (tms t u) := by
  have k1 := le_mul h.p k.p
  have k2 := le_mul h.q k.r
  have k3 := le_mul h.p k.q
  have k4 := le_mul h.q k.s
  have k5 := le_mul h.r k.p
  have k6 := le_mul h.s k.r
  have k7 := le_mul h.r k.q
  have k8 := le_mul h.s k.s
  refine ⟨?_, ?_, ?_, ?_⟩ <;> (unfold Lb tms; dsimp only; omega)
theorem lb_b64 {i : Int} (h : -5000000000 ≤ i ∧ i ≤ 5000000000) : b64 i = true := by
  simp only [b64, Bool.and_eq_true, decide_eq_true_eq]
  omega
theorem Tz.tm {t : Tb} (h : Tz t) : Tm t := by
  obtain ⟨a, b, c, d⟩ := h
  unfold Lb at *
  exact ⟨lb_b64 (by omega), lb_b64 (by omega), lb_b64 (by omega), lb_b64 (by omega)⟩
theorem tm4 {a b c d : Int} (ha : -5000000000 ≤ a ∧ a ≤ 5000000000) (hb : -5000000000 ≤ b ∧ b ≤ 5000000000) (hc : -5000000000 ≤ c ∧ c ≤ 5000000000) (hd : -5000000000 ≤ d ∧ d ≤ 5000000000) : Tm ⟨a, b, c, d⟩ := ⟨lb_b64 ha, lb_b64 hb, lb_b64 hc, lb_b64 hd⟩
/-! all the values near -/
section
variable {x x' y y' : Sh} {t u v z : Tb} {ns : List Int} {a b c : Int}
abbrev vsA (x y x' y' : Sh) (v : Tb) : List D := (l1 x' y' v ++ l2 x y x' y') ++ l3 x' y'
abbrev vsB (x y x' y' : Sh) (z v : Tb) : List D := ((b1 z v ++ l2 x y x' y') ++ l3 x' y') ++ b4 z
def mA2 (ns : List Int) (a b c : Int) (x y x' y' : Sh) (v : Tb) : Mem := (mA ns a b c x y x' y' v).put 9 (.rol (vsA x y x' y' v))
def mB2 (ns : List Int) (a b c : Int) (x y x' y' : Sh) (z v : Tb) : Mem := (mB ns a b c x y x' y' z v).put 11 (.rol (vsB x y x' y' z v))
theorem wfA : WF (mA2 ns a b c x y x' y' v) := ⟨by kernel_rfl, by kernel_rfl⟩
theorem wfB : WF (mB2 ns a b c x y x' y' z v) := ⟨by kernel_rfl, by kernel_rfl⟩
theorem l2_same {m : Mem} (w : WF m) (gx : Gd x) (gy : Gd y) (r : Rd x x' t) (q : Rd y y' u) : ∀ d ∈ l2 x y x' y', ∃ b, Same x y m d b := by
  have hx' := red_good gx r
  have hy' := red_good gy q
  intro d hd
  simp only [l2, List.mem_cons, List.not_mem_nil, or_false] at hd
  rcases hd with rfl | rfl | rfl | rfl | rfl | rfl | rfl
  · exact ⟨_, same_ap hx' hy' w r q⟩
  · exact ⟨_, same_ap hy' hx' w r q⟩
  · exact ⟨_, same_ap gx.ok gy.ok w r q⟩
  · exact ⟨_, same_ap1 w r q⟩
  · exact ⟨_, same_non w r q⟩
  · exact ⟨_, same_nil w r q⟩
  · exact ⟨_, same_str w r q⟩
theorem isSome_by {m : Mem} {d : D} (h : (toPy m 8 d).isSome = true) : (toPy m 9 (.tup [.str "by", d])).isSome = true := by
  have e0 : toPy m 8 (.str "by") = some (.str "by") := by kernel_rfl
  cases q : toPy m 8 d with
  | none => rw [q] at h; cases h
  | some p =>
    show ((match omap (toPy m 8) [.str "by", d] with | some xs => some (PyData.tuple xs) | none => none) : Option PyData).isSome = true
    simp only [omap, e0, q, Option.isSome]
theorem l3_same {m : Mem} (w : WF m) (h7 : m.lst 7 = some [.int x'.a, .int x'.b, .int x'.c]) (gx : Gd x) (gy : Gd y) (r : Rd x x' t) (q : Rd y y' u) : ∀ d ∈ l3 x' y', ∃ b, Same x y m d b := by
  intro d hd
  simp only [l3, List.mem_cons, List.not_mem_nil, or_false] at hd
  rcases hd with rfl | rfl | rfl | rfl
  · exact ⟨_, same_by (v := tI) ⟨by decide, by decide, by decide, by decide⟩ w r q⟩
  · exact ⟨_, same_byx (isSome_by rfl) (fun n => tab_bl w) w r q⟩
  · exact ⟨_, same_by (v := ⟨1, 0, 0, -1⟩) ⟨by decide, by decide, by decide, by decide⟩ w r q⟩
  · have s := r.sm
    exact ⟨_, same_apl h7 s.a s.b s.c q.sm w r q⟩
theorem head_same {m : Mem} (w : WF m) (h3 : m.lst 3 = some [.int v.p, .int v.q, .int v.r, .int v.s]) (hv : Tm v) (r : Rd x x' t) (q : Rd y y' u) : ∀ d ∈ [D.tup [.str "by", dT v], .tup [.str "by", .ref 3], .tup [.str "by", .tup [.int v.p, .int v.q, .int v.r]], .tup [.str "by"]], ∃ b, Same x y m d b := by
  intro d hd
  simp only [List.mem_cons, List.not_mem_nil, or_false] at hd
  rcases hd with rfl | rfl | rfl | rfl
  · exact ⟨_, same_by hv w r q⟩
  · refine ⟨_, same_byx (isSome_by ?_) (fun n => tab_ref h3) w r q⟩
    show ((match m.lst 3 with | some ds => (match omap (toPy m 7) ds with | some xs => some (PyData.list xs) | none => none) | none => none) : Option PyData).isSome = true
    rw [h3] <;> rfl
  · exact ⟨_, same_byx (isSome_by rfl) (fun n => tab_3) w r q⟩
  · exact ⟨_, same_by1 w r q⟩
theorem allA (gx : Gd x) (gy : Gd y) (hv : Tm v) (r : Rd x x' t) (q : Rd y y' u) : ∀ d ∈ vsA x y x' y' v, ∃ b', Same x y (mA2 ns a b c x y x' y' v) d b' := by
  have w := wfA (ns := ns) (a := a) (b := b) (c := c) (x := x) (y := y) (x' := x') (y' := y') (v := v)
  have hx' := red_good gx r
  have hy' := red_good gy q
  intro d hd
  rcases List.mem_append.mp hd with hd | hd
  · rcases List.mem_append.mp hd with hd | hd
    · have hd : d = tA x' y' ∨ d = .ref 2 ∨ d = .tup [.str "apart", dS x', dS y', .int 0] ∨ d = .tup [.str "apart"] ∨ d ∈ [D.tup [.str "by", dT v], .tup [.str "by", .ref 3], .tup [.str "by", .tup [.int v.p, .int v.q, .int v.r]], .tup [.str "by"]] := by
        simpa only [l1, List.mem_cons, List.not_mem_nil, or_false] using hd
      rcases hd with rfl | rfl | rfl | rfl | hd
      · exact ⟨_, same_ap hx' hy' w r q⟩
      · exact ⟨_, same_ref (ds := [.str "apart", dS x', dS y']) (by kernel_rfl) w r q⟩
      · exact ⟨_, same_ap4 _ _ w r q (by kernel_rfl)⟩
      · exact ⟨_, same_ap1 w r q⟩
      · exact head_same w (by kernel_rfl) hv r q d hd
    · exact l2_same w gx gy r q d hd
  · exact l3_same w (by kernel_rfl) gx gy r q d hd
theorem allB (gx : Gd x) (gy : Gd y) (hv : Tm v) (hz : Tz z) (r : Rd x x' t) (q : Rd y y' u) : ∀ d ∈ vsB x y x' y' z v, ∃ b', Same x y (mB2 ns a b c x y x' y' z v) d b' := by
  have w := wfB (ns := ns) (a := a) (b := b) (c := c) (x := x) (y := y) (x' := x') (y' := y') (v := v) (z := z)
  obtain ⟨z1, z2, z3, z4⟩ := hz
  have hz := Tz.tm ⟨z1, z2, z3, z4⟩
  unfold Lb at z1 z2 z3 z4
  intro d hd
  rcases List.mem_append.mp hd with hd | hd
  · rcases List.mem_append.mp hd with hd | hd
    · rcases List.mem_append.mp hd with hd | hd
      · have hd : d = tB z ∨ d = .ref 2 ∨ d = .tup [.str "by", dT z, .int 0] ∨ d = .tup [.str "by"] ∨ d ∈ [D.tup [.str "by", dT v], .tup [.str "by", .ref 3], .tup [.str "by", .tup [.int v.p, .int v.q, .int v.r]], .tup [.str "by"]] := by
          simpa only [b1, List.mem_cons, List.not_mem_nil, or_false] using hd
        rcases hd with rfl | rfl | rfl | rfl | hd
        · exact ⟨_, same_by hz w r q⟩
        · exact ⟨_, same_ref (ds := [.str "by", dT z]) (by kernel_rfl) w r q⟩
        · exact ⟨_, same_by3 _ w r q (by kernel_rfl)⟩
        · exact ⟨_, same_by1 w r q⟩
        · exact head_same w (by kernel_rfl) hv r q d hd
      · exact l2_same w gx gy r q d hd
    · exact l3_same w (by kernel_rfl) gx gy r q d hd
  · simp only [b4, List.mem_cons, List.not_mem_nil, or_false] at hd
    rcases hd with rfl | rfl | rfl
    · exact ⟨_, same_by (tm4 (by omega) (by omega) (by omega) (by omega)) w r q⟩
    · exact ⟨_, same_by (tm4 (by omega) (by omega) (by omega) (by omega)) w r q⟩
    · exact ⟨_, same_by (tm4 (by omega) (by omega) (by omega) (by omega)) w r q⟩
end
end Pf

set_option Elab.async false
set_option linter.all false
set_option maxRecDepth 100000
set_option maxHeartbeats 1000000
namespace Pf
open PySem L2 Ev
theorem seq_nx {F : Nat → List D → MV D} {s r : S} {ρ ρ' : Rho} {m m' : Mem} (h : denS F s ρ m = .nx ρ' m') : denS F (.seq s r) ρ m = denS F r ρ' (tdS m.nx ρ' m') := by
  show (match denS F s ρ m with | .nx ρ' m' => denS F r ρ' (tdS m.nx ρ' m') | o => o) = _
  rw [h]
/-- the four of which one is drawn -/
theorem pick4 {ns : List Int} {a b c : Int} {x1 x2 x3 x4 : Sh} : ∃ x a' b' c', (x = x1 ∨ x = x2 ∨ x = x3 ∨ x = x4) ∧ ∀ n, run T (n + 2) 21 [.ref 1, .ref 2] ((MD ns a b c).new (.lst [dS x1, dS x2, dS x3, dS x4])) = .ok (dS x) ((MD ns a' b' c').new (.lst [dS x1, dS x2, dS x3, dS x4])) := by
  obtain ⟨d, a', b', c', hd, h⟩ := pick_run (ns := ns) (a := a) (b := b) (c := c) (xs := [dS x1, dS x2, dS x3, dS x4]) (by simp) (by simp)
  simp only [List.mem_cons, List.not_mem_nil, or_false] at hd
  rcases hd with rfl | rfl | rfl | rfl
  · exact ⟨x1, a', b', c', .inl rfl, h⟩
  · exact ⟨x2, a', b', c', .inr (.inl rfl), h⟩
  · exact ⟨x3, a', b', c', .inr (.inr (.inl rfl)), h⟩
  · exact ⟨x4, a', b', c', .inr (.inr (.inr rfl)), h⟩
/-- the draws: a base, one, other -/
theorem draws {ns : List Int} {a b c : Int} : ∃ base one other a' b' c', Gd one ∧ Gd other ∧ disc one = disc base ∧ b64 base.b = true ∧ b64 base.c = true ∧ ∀ n,
    denS (run T (n + 7)) (.seq (.asg (.tnm 1) (.call 27 (.cons (.var 0) (.cons (.const (.int 9)) .nil)))) (.seq (.par 2 3 (.cons (.call 25 (.cons (.var 1) (.cons (.call 24 (.cons (.var 0) (.cons (.const (.int 2)) .nil))) .nil))) (.cons (.call 25 (.cons (.var 1) (.cons (.call 24 (.cons (.var 0) (.cons (.const (.int 2)) .nil))) .nil))) .nil))) (.seq (.asg (.tnm 3) (.call 21 (.cons (.var 0) (.cons (.lst (.cons (.var 3) (.cons (.var 3) (.cons (.call 25 (.cons (.call 27 (.cons (.var 0) (.cons (.const (.int 9)) .nil))) (.cons (.call 24 (.cons (.var 0) (.cons (.const (.int 2)) .nil))) .nil))) (.cons (.tup (.cons (.ix (.var 1) (.const (.int 0))) (.cons (.bin .sub (.const (.int 0)) (.ix (.var 1) (.const (.int 1)))) (.cons (.ix (.var 1) (.const (.int 2))) .nil)))) .nil))))) .nil)))) .skip))) [some (.ref 1), none, none, none, none, none, none, none, none] (MD ns a b c) =
      .nx [some (.ref 1), some (dS base), some (dS one), some (dS other), none, none, none, none, none] (MD ns a' b' c') := by
  obtain ⟨B, a1, b1, c1, hB, e1⟩ := sh_run (ns := ns) (a := a) (b := b) (c := c)
  obtain ⟨t1, a2, b2, c2, ht1, e2⟩ := drawn2 (ns := ns) (a := a1) (b := b1) (c := c1)
  obtain ⟨t2, a3, b3, c3, ht2, e3⟩ := drawn2 (ns := ns) (a := a2) (b := b2) (c := c2)
  obtain ⟨B2, a4, b4, c4, hB2, e4⟩ := sh_run (ns := ns) (a := a3) (b := b3) (c := c3)
  obtain ⟨t3, a5, b5, c5, ht3, e5⟩ := drawn2 (ns := ns) (a := a4) (b := b4) (c := c4)
  obtain ⟨o, a6, b6, c6, ho, e6⟩ := pick4 (ns := ns) (a := a5) (b := b5) (c := c5) (x1 := led B t2) (x2 := led B t2) (x3 := led B2 t3) (x4 := ⟨B.a, 0 - B.b, B.c⟩)
  have bb : ∀ {x : Sh}, Bs x → b64 x.b = true := fun {x} h => by
    have := h.a
    have := h.b
    simp only [b64, Bool.and_eq_true, decide_eq_true_eq]
    omega
  have bc : b64 B.c = true := by
    have := hB.a
    have := hB.c
    simp only [b64, Bool.and_eq_true, decide_eq_true_eq]
    omega
  have m1 := ht1.tm (by decide) (by decide)
  have m2 := ht2.tm (by decide) (by decide)
  have m3 := ht3.tm (by decide) (by decide)
  have g1 := led_good hB ht1
  have go : Gd o := by
    rcases ho with rfl | rfl | rfl | rfl
    · exact led_good hB ht2
    · exact led_good hB ht2
    · exact led_good hB2 ht3
    · exact turned_good hB
  refine ⟨B, led B t1, o, a6, b6, c6, g1, go, by rw [disc_led, ht1.det]; omega, bb hB, bc, fun n => ?_⟩
  have hb : ∀ {i : Int}, D.tup [.int B.a, .int i, .int B.c] = dS ⟨B.a, i, B.c⟩ := rfl
  have i0 : ∀ m, ixF (dS B) (.int 0) m = .ok (.int B.a) m := fun m => rfl
  have i1 : ∀ m, ixF (dS B) (.int 1) m = .ok (.int B.b) m := fun m => rfl
  have i2 : ∀ m, ixF (dS B) (.int 2) m = .ok (.int B.c) m := fun m => rfl
  simp only [tdS_same, tdS_put, ix30, ix31, ix32, ix40, ix41, ix42, ix43, ix20, ix21, Ent.fn, startR, denS, den, asV, asS, asT, consM, lstM, bin2, negM, testM, sel_t, sel_f, selAnd, selOr, selNot, truth_bl, iteM, bandM, borM, Ev.notM, chainM, callM, bltM, partM, partD, sliceM, rng1M, rng2M, tnilM, tconsM, tnmM, noX, Out.bind, Out.st, opt, okk, getR, List.map, List.replicate, List.append, List.length, List.set, Nat.sub, HAppend.hAppend, Append.append, addF, subF, ltM, leM, gtM, geM, eqM, neM, fin, bltF, one, two, onSeq, onInt, onLst, onSome, seqOf, len0, len1, len2, len3, len4, len5, intF, isaF, tyOf, isaT, E.isNo, Bool.not_true, Bool.not_false, e1, e2, e3, e4, e5, lled_run _ _ B t1 (bb hB) m1, lled_run _ _ B t2 (bb hB) m2, lled_run _ _ B2 t3 (bb hB2) m3, tdS_MD', i0, i1, i2, hb, newL4]
  have e7 : ∀ n, run T (n + 2) 21 [.ref 1, .ref (MD ns a5 b5 c5).nx] ((MD ns a5 b5 c5).new (.lst [dS (led B t2), dS (led B t2), dS (led B2 t3), dS ⟨B.a, 0 - B.b, B.c⟩])) = .ok (dS o) ((MD ns a6 b6 c6).new (.lst [dS (led B t2), dS (led B t2), dS (led B2 t3), dS ⟨B.a, 0 - B.b, B.c⟩])) := e6
  simp only [tdS_same, tdS_put, ix30, ix31, ix32, ix40, ix41, ix42, ix43, ix20, ix21, Ent.fn, startR, denS, den, asV, asS, asT, consM, lstM, bin2, negM, testM, sel_t, sel_f, selAnd, selOr, selNot, truth_bl, iteM, bandM, borM, Ev.notM, chainM, callM, bltM, partM, partD, sliceM, rng1M, rng2M, tnilM, tconsM, tnmM, noX, Out.bind, Out.st, opt, okk, getR, List.map, List.replicate, List.append, List.length, List.set, Nat.sub, HAppend.hAppend, Append.append, addF, subF, ltM, leM, gtM, geM, eqM, neM, fin, bltF, one, two, onSeq, onInt, onLst, onSome, seqOf, len0, len1, len2, len3, len4, len5, intF, isaF, tyOf, isaT, E.isNo, Bool.not_true, Bool.not_false, e7]
  kernel_rfl
end Pf

set_option Elab.async false
set_option linter.all false
set_option maxRecDepth 100000
set_option maxHeartbeats 1000000
namespace Pf
open PySem L2 Ev
section
variable {m : Mem} {ns : List Int} {a b c : Int} {B x x' y y' : Sh} {t u : Tb} {n : Nat} {o4 o5 o6 o7 o8 : Option D}
theorem isnot_tt : cmpM .isnot (.bl true) (.bl true) m = .ok (.bl false) m := rfl
theorem ne_bl {p : Bool} : cmpM .ne (.bl p) (.bl p) m = .ok (.bl false) m := by cases p <;> rfl
theorem eqS_self (x : Sh) : eqS x x = true := (eqS_iff x x).mpr rfl
theorem st3 (w : WF m) (r : Rd x x' t) : denS (run T (n + 7)) (.asg (.tnm 4) (.ix (.call 26 (.cons (.var 2) .nil)) (.const (.int 0)))) [some (.ref 1), some (dS B), some (dS x), some (dS y), o4, o5, o6, o7, o8] m = .nx [some (.ref 1), some (dS B), some (dS x), some (dS y), some (dS x'), o5, o6, o7, o8] m := by
  simp only [tdS_same, tdS_put, ix30, ix31, ix32, ix40, ix41, ix42, ix43, ix20, ix21, Ent.fn, startR, denS, den, asV, asS, asT, consM, lstM, bin2, negM, testM, sel_t, sel_f, selAnd, selOr, selNot, truth_bl, iteM, bandM, borM, Ev.notM, chainM, callM, bltM, partM, partD, sliceM, rng1M, rng2M, tnilM, tconsM, tnmM, noX, Out.bind, Out.st, opt, okk, getR, List.map, List.replicate, List.append, List.length, List.set, Nat.sub, HAppend.hAppend, Append.append, addF, subF, ltM, leM, gtM, geM, eqM, neM, fin, bltF, one, two, onSeq, onInt, onLst, onSome, seqOf, len0, len1, len2, len3, len4, len5, intF, isaF, tyOf, isaT, E.isNo, Bool.not_true, Bool.not_false, (r.run _ _).1]
theorem st4 (w : WF m) (r : Rd x x' t) (hd : disc x = disc B) (hb : b64 B.b = true) (hc : b64 B.c = true) : denS (run T (n + 7)) (.iff (.bor (.cmp .isnot (.call 10 (.cons (.var 2) .nil)) (.const (.bl true))) (.cmp .ne (.call 11 (.cons (.var 2) .nil)) (.bin .sub (.bin .mul (.bin .mul (.const (.int 4)) (.ix (.var 1) (.const (.int 0)))) (.ix (.var 1) (.const (.int 2)))) (.bin .mul (.ix (.var 1) (.const (.int 1))) (.ix (.var 1) (.const (.int 1))))))) (.seq (.ret (.const (.bl false))) .skip) .skip) [some (.ref 1), some (dS B), some (dS x), some (dS y), o4, o5, o6, o7, o8] m = .nx [some (.ref 1), some (dS B), some (dS x), some (dS y), o4, o5, o6, o7, o8] m := by
  have i0 : ∀ m, ixF (dS B) (.int 0) m = .ok (.int B.a) m := fun m => rfl
  have i1 : ∀ m, ixF (dS B) (.int 1) m = .ok (.int B.b) m := fun m => rfl
  have i2 : ∀ m, ixF (dS B) (.int 2) m = .ok (.int B.c) m := fun m => rfl
  have e : disc x = 4 * B.a * B.c - B.b * B.b := hd
  simp only [tdS_same, tdS_put, ix30, ix31, ix32, ix40, ix41, ix42, ix43, ix20, ix21, Ent.fn, startR, denS, den, asV, asS, asT, consM, lstM, bin2, negM, testM, sel_t, sel_f, selAnd, selOr, selNot, truth_bl, iteM, bandM, borM, Ev.notM, chainM, callM, bltM, partM, partD, sliceM, rng1M, rng2M, tnilM, tconsM, tnmM, noX, Out.bind, Out.st, opt, okk, getR, List.map, List.replicate, List.append, List.length, List.set, Nat.sub, HAppend.hAppend, Append.append, addF, subF, ltM, leM, gtM, geM, eqM, neM, fin, bltF, one, two, onSeq, onInt, onLst, onSome, seqOf, len0, len1, len2, len3, len4, len5, intF, isaF, tyOf, isaT, E.isNo, Bool.not_true, Bool.not_false, pisshape_run _ w, r.inv.ok, isnot_tt, plack_run _ w _ r.inv.ok, i0, i1, i2, mulF_l, mulF_r, bb4, hb, hc, decide_eq_true e]
theorem st5 (w : WF m) (r : Rd x x' t) (h : okS x' = true) : denS (run T (n + 7)) (.iff (.bor (.cmp .ne (.call 13 (.cons (.var 2) .nil)) (.var 4)) (.bor (.cmp .ne (.call 12 (.cons (.var 2) .nil)) (.call 28 (.cons (.var 2) .nil))) (.bnot (.call 12 (.cons (.var 4) .nil))))) (.seq (.ret (.const (.bl false))) .skip) .skip) [some (.ref 1), some (dS B), some (dS x), some (dS y), some (dS x'), o5, o6, o7, o8] m = .nx [some (.ref 1), some (dS B), some (dS x), some (dS y), some (dS x'), o5, o6, o7, o8] m := by
  simp only [tdS_same, tdS_put, ix30, ix31, ix32, ix40, ix41, ix42, ix43, ix20, ix21, Ent.fn, startR, denS, den, asV, asS, asT, consM, lstM, bin2, negM, testM, sel_t, sel_f, selAnd, selOr, selNot, truth_bl, iteM, bandM, borM, Ev.notM, chainM, callM, bltM, partM, partD, sliceM, rng1M, rng2M, tnilM, tconsM, tnmM, noX, Out.bind, Out.st, opt, okk, getR, List.map, List.replicate, List.append, List.length, List.set, Nat.sub, HAppend.hAppend, Append.append, addF, subF, ltM, leM, gtM, geM, eqM, neM, fin, bltF, one, two, onSeq, onInt, onLst, onSome, seqOf, len0, len1, len2, len3, len4, len5, intF, isaF, tyOf, isaT, E.isNo, Bool.not_true, Bool.not_false, preduced_run w r, neM_S, eqS_self, pisred_run _ w _ r.inv.ok, lisred_run, ne_bl, pisred_run _ w _ h, r.red]
theorem st6 (w : WF m) (r : Rd x x' t) : denS (run T (n + 7)) (.asg (.tnm 5) (.call 14 (.cons (.var 2) .nil))) [some (.ref 1), some (dS B), some (dS x), some (dS y), some (dS x'), o5, o6, o7, o8] m = .nx [some (.ref 1), some (dS B), some (dS x), some (dS y), some (dS x'), some (dT t), o6, o7, o8] m := by
  simp only [tdS_same, tdS_put, ix30, ix31, ix32, ix40, ix41, ix42, ix43, ix20, ix21, Ent.fn, startR, denS, den, asV, asS, asT, consM, lstM, bin2, negM, testM, sel_t, sel_f, selAnd, selOr, selNot, truth_bl, iteM, bandM, borM, Ev.notM, chainM, callM, bltM, partM, partD, sliceM, rng1M, rng2M, tnilM, tconsM, tnmM, noX, Out.bind, Out.st, opt, okk, getR, List.map, List.replicate, List.append, List.length, List.set, Nat.sub, HAppend.hAppend, Append.append, addF, subF, ltM, leM, gtM, geM, eqM, neM, fin, bltF, one, two, onSeq, onInt, onLst, onSome, seqOf, len0, len1, len2, len3, len4, len5, intF, isaF, tyOf, isaT, E.isNo, Bool.not_true, Bool.not_false, ptable_run w r]
theorem st7 (w : WF m) (r : Rd x x' t) : denS (run T (n + 7)) (.iff (.bor (.bnot (.call 29 (.cons (.var 5) .nil))) (.cmp .ne (.call 25 (.cons (.var 2) (.cons (.var 5) .nil))) (.var 4))) (.seq (.ret (.const (.bl false))) .skip) .skip) [some (.ref 1), some (dS B), some (dS x), some (dS y), some (dS x'), some (dT t), o6, o7, o8] m = .nx [some (.ref 1), some (dS B), some (dS x), some (dS y), some (dS x'), some (dT t), o6, o7, o8] m := by
  have hx := (okS_sm r.inv.ok).b
  simp only [tdS_same, tdS_put, ix30, ix31, ix32, ix40, ix41, ix42, ix43, ix20, ix21, Ent.fn, startR, denS, den, asV, asS, asT, consM, lstM, bin2, negM, testM, sel_t, sel_f, selAnd, selOr, selNot, truth_bl, iteM, bandM, borM, Ev.notM, chainM, callM, bltM, partM, partD, sliceM, rng1M, rng2M, tnilM, tconsM, tnmM, noX, Out.bind, Out.st, opt, okk, getR, List.map, List.replicate, List.append, List.length, List.set, Nat.sub, HAppend.hAppend, Append.append, addF, subF, ltM, leM, gtM, geM, eqM, neM, fin, bltF, one, two, onSeq, onInt, onLst, onSome, seqOf, len0, len1, len2, len3, len4, len5, intF, isaF, tyOf, isaT, E.isNo, Bool.not_true, Bool.not_false, ltable_run w r.inv.tm, decide_eq_true r.inv.det, lled_run _ _ x t hx r.inv.tm, r.inv.led, neM_S, eqS_self]
theorem st8 (w : WF m) (q : Rd y y' u) : denS (run T (n + 7)) (.asg (.tnm 6) (.cmp .eq (.var 4) (.ix (.call 26 (.cons (.var 3) .nil)) (.const (.int 0))))) [some (.ref 1), some (dS B), some (dS x), some (dS y), some (dS x'), some (dT t), o6, o7, o8] m = .nx [some (.ref 1), some (dS B), some (dS x), some (dS y), some (dS x'), some (dT t), some (.bl (eqS x' y')), o7, o8] m := by
  simp only [tdS_same, tdS_put, ix30, ix31, ix32, ix40, ix41, ix42, ix43, ix20, ix21, Ent.fn, startR, denS, den, asV, asS, asT, consM, lstM, bin2, negM, testM, sel_t, sel_f, selAnd, selOr, selNot, truth_bl, iteM, bandM, borM, Ev.notM, chainM, callM, bltM, partM, partD, sliceM, rng1M, rng2M, tnilM, tconsM, tnmM, noX, Out.bind, Out.st, opt, okk, getR, List.map, List.replicate, List.append, List.length, List.set, Nat.sub, HAppend.hAppend, Append.append, addF, subF, ltM, leM, gtM, geM, eqM, neM, fin, bltF, one, two, onSeq, onInt, onLst, onSome, seqOf, len0, len1, len2, len3, len4, len5, intF, isaF, tyOf, isaT, E.isNo, Bool.not_true, Bool.not_false, (q.run _ _).1, eqM_S]
theorem st9 (w : WF m) (r : Rd x x' t) (q : Rd y y' u) : denS (run T (n + 7)) (.asg (.tnm 7) (.call 16 (.cons (.var 2) (.cons (.var 3) .nil)))) [some (.ref 1), some (dS B), some (dS x), some (dS y), some (dS x'), some (dT t), some (.bl (eqS x' y')), o7, o8] m = .nx [some (.ref 1), some (dS B), some (dS x), some (dS y), some (dS x'), some (dT t), some (.bl (eqS x' y')), some (told x' y' t u), o8] m := by
  simp only [tdS_same, tdS_put, ix30, ix31, ix32, ix40, ix41, ix42, ix43, ix20, ix21, Ent.fn, startR, denS, den, asV, asS, asT, consM, lstM, bin2, negM, testM, sel_t, sel_f, selAnd, selOr, selNot, truth_bl, iteM, bandM, borM, Ev.notM, chainM, callM, bltM, partM, partD, sliceM, rng1M, rng2M, tnilM, tconsM, tnmM, noX, Out.bind, Out.st, opt, okk, getR, List.map, List.replicate, List.append, List.length, List.set, Nat.sub, HAppend.hAppend, Append.append, addF, subF, ltM, leM, gtM, geM, eqM, neM, fin, bltF, one, two, onSeq, onInt, onLst, onSome, seqOf, len0, len1, len2, len3, len4, len5, intF, isaF, tyOf, isaT, E.isNo, Bool.not_true, Bool.not_false, paper_run w r q]
end
end Pf

set_option Elab.async false
set_option linter.all false
set_option maxRecDepth 100000
set_option maxHeartbeats 1000000
namespace Pf
open PySem L2 Ev
section
variable {m : Mem} {ns : List Int} {a b c : Int} {B x x' y y' : Sh} {t u : Tb} {n : Nat} {o4 o5 o6 o7 o8 : Option D}
theorem tms_back (u : Tb) (h : det u = 1) : tms u (backT u) = tI := by
  simp only [tms, backT, tI, Tb.mk.injEq]
  unfold det at h
  refine ⟨?_, ?_, ?_, ?_⟩ <;> grind
theorem det_back (u : Tb) : det (backT u) = det u := by
  simp only [det, backT]; grind
/-- the paper told by both leads one to the other -/
theorem by_leads (r : Rd x x' t) (q : Rd y y' u) (e : x' = y') : det (tms t (backT u)) = 1 ∧ led x (tms t (backT u)) = y := by
  have h1 := r.inv.det
  have h2 := q.inv.det
  refine ⟨by rw [det_tms, det_back, h1, h2]; rfl, ?_⟩
  rw [← led_led, r.inv.led, e, ← q.inv.led, led_led, tms_back u h2, led_I]
theorem by_ne (d : D) : cmpM .eq (.str "by") (.str "by") m = .ok (.bl true) m := by_by
theorem ix0_by : ixF (.tup [.str "by", dT t]) (.int 0) m = .ok (.str "by") m := rfl
theorem st10 (w : WF m) (gx : Gd x) (gy : Gd y) (r : Rd x x' t) (q : Rd y y' u) : denS (run T (n + 7)) (.iff (.bor (.cmp .ne (.call 15 (.cons (.var 2) (.cons (.var 3) .nil))) (.var 6)) (.bor (.cmp .ne (.cmp .eq (.ix (.var 7) (.const (.int 0))) (.const (.str "by"))) (.var 6)) (.bnot (.call 30 (.cons (.var 2) (.cons (.var 3) (.cons (.var 7) .nil))))))) (.seq (.ret (.const (.bl false))) .skip) .skip) [some (.ref 1), some (dS B), some (dS x), some (dS y), some (dS x'), some (dT t), some (.bl (eqS x' y')), some (told x' y' t u), o8] m = .nx [some (.ref 1), some (dS B), some (dS x), some (dS y), some (dS x'), some (dT t), some (.bl (eqS x' y')), some (told x' y' t u), o8] m := by
  have htz := (tl_tms (red_tl gx r) (tl_back (red_tl gy q))).tm
  have hx' := red_good gx r
  have hy' := red_good gy q
  cases h : eqS x' y' with
  | true =>
    have e := (eqS_iff x' y').mp h
    obtain ⟨d1, d2⟩ := by_leads r q e
    have ht : told x' y' t u = .tup [.str "by", dT (tms t (backT u))] := by unfold told; rw [h]
    have s := (same_by htz w r q (n + 1)).2
    rw [decide_eq_true d1, d2, eqS_self] at s
    rw [ht]
    simp only [tdS_same, tdS_put, ix30, ix31, ix32, ix40, ix41, ix42, ix43, ix20, ix21, Ent.fn, startR, denS, den, asV, asS, asT, consM, lstM, bin2, negM, testM, sel_t, sel_f, selAnd, selOr, selNot, truth_bl, iteM, bandM, borM, Ev.notM, chainM, callM, bltM, partM, partD, sliceM, rng1M, rng2M, tnilM, tconsM, tnmM, noX, Out.bind, Out.st, opt, okk, getR, List.map, List.replicate, List.append, List.length, List.set, Nat.sub, HAppend.hAppend, Append.append, addF, subF, ltM, leM, gtM, geM, eqM, neM, fin, bltF, one, two, onSeq, onInt, onLst, onSome, seqOf, len0, len1, len2, len3, len4, len5, intF, isaF, tyOf, isaT, E.isNo, Bool.not_true, Bool.not_false, areled_run w r q, h, ne_bl, by_by, s, Bool.and_self]
  | false =>
    have ht : told x' y' t u = .tup [.str "apart", dS x', dS y'] := by unfold told; rw [h]
    have s := (same_ap hx' hy' w r q (n + 1)).2
    rw [h, eqS_self, eqS_self] at s
    rw [ht]
    simp only [tdS_same, tdS_put, ix30, ix31, ix32, ix40, ix41, ix42, ix43, ix20, ix21, Ent.fn, startR, denS, den, asV, asS, asT, consM, lstM, bin2, negM, testM, sel_t, sel_f, selAnd, selOr, selNot, truth_bl, iteM, bandM, borM, Ev.notM, chainM, callM, bltM, partM, partD, sliceM, rng1M, rng2M, tnilM, tconsM, tnmM, noX, Out.bind, Out.st, opt, okk, getR, List.map, List.replicate, List.append, List.length, List.set, Nat.sub, HAppend.hAppend, Append.append, addF, subF, ltM, leM, gtM, geM, eqM, neM, fin, bltF, one, two, onSeq, onInt, onLst, onSome, seqOf, len0, len1, len2, len3, len4, len5, intF, isaF, tyOf, isaT, E.isNo, Bool.not_true, Bool.not_false, areled_run w r q, h, ne_bl, ap_by, s, Bool.and_self]
end
end Pf

set_option Elab.async false
set_option linter.all false
set_option maxRecDepth 100000
set_option maxHeartbeats 1000000
namespace Pf
open PySem L2 Ev
def bR : S := (.seq (.iff (.cmp .ne (.blt .repr (.cons (.call 17 (.cons (.var 2) (.cons (.var 3) (.cons (.var 8) .nil)))) .nil)) (.blt .repr (.cons (.call 30 (.cons (.var 2) (.cons (.var 3) (.cons (.var 8) .nil)))) .nil))) (.seq (.ret (.const (.bl false))) .skip) .skip) .skip)
section
variable {m : Mem} {ns : List Int} {a b c a' b' c' : Int} {B x x' y y' : Sh} {t u v : Tb} {n : Nat} {o1 o4 o5 o6 o7 o8 : Option D}
theorem repr_bl {p : Bool} : reprF (.bl p) m = .ok (.str (if p = true then "True" else "False")) m := by cases p <;> kernel_rfl
theorem ne_rep {p : Bool} : cmpM .ne (.str (if p = true then "True" else "False")) (.str (if p = true then "True" else "False")) m = .ok (.bl false) m := by cases p <;> kernel_rfl
theorem turnV {d : D} {p : Bool} (s : Same x y m d p) : denS (run T (n + 7)) bR [some (.ref 1), o1, some (dS x), some (dS y), o4, o5, o6, o7, some d] m = .nx [some (.ref 1), o1, some (dS x), some (dS y), o4, o5, o6, o7, some d] m := by
  unfold bR
  simp only [tdS_same, tdS_put, ix30, ix31, ix32, ix40, ix41, ix42, ix43, ix20, ix21, Ent.fn, startR, denS, den, asV, asS, asT, consM, lstM, bin2, negM, testM, sel_t, sel_f, selAnd, selOr, selNot, truth_bl, iteM, bandM, borM, Ev.notM, chainM, callM, bltM, partM, partD, sliceM, rng1M, rng2M, tnilM, tconsM, tnmM, noX, Out.bind, Out.st, opt, okk, getR, List.map, List.replicate, List.append, List.length, List.set, Nat.sub, HAppend.hAppend, Append.append, addF, subF, ltM, leM, gtM, geM, eqM, neM, fin, bltF, one, two, onSeq, onInt, onLst, onSome, seqOf, len0, len1, len2, len3, len4, len5, intF, isaF, tyOf, isaT, E.isNo, Bool.not_true, Bool.not_false, (s (n + 1)).1, (s (n + 1)).2, repr_bl, ne_rep]
theorem loopV : ∀ (vs : List D) (o8 : Option D), (∀ d ∈ vs, ∃ p, Same x y m d p) → ∃ q8, ∀ n, forL (fun d ρ m => noX ((den (run T (n + 7)) (.tnm 8)).t d ρ m)) (fun ρ m => denS (run T (n + 7)) bR ρ m) vs [some (.ref 1), o1, some (dS x), some (dS y), o4, o5, o6, o7, o8] m = .nx [some (.ref 1), o1, some (dS x), some (dS y), o4, o5, o6, o7, q8] m
  | [], o8, _ => ⟨o8, fun n => rfl⟩
  | d :: r, o8, h => by
    obtain ⟨p, s⟩ := h d (List.mem_cons_self ..)
    obtain ⟨q8, e⟩ := loopV r (some d) fun d hd => h d (List.mem_cons_of_mem _ hd)
    refine ⟨q8, fun n => ?_⟩
    show (match denS (run T (n + 7)) bR [some (.ref 1), o1, some (dS x), some (dS y), o4, o5, o6, o7, some d] m with
      | .nx ρ' m' => forL (fun d ρ m => noX ((den (run T (n + 7)) (.tnm 8)).t d ρ m)) (fun ρ m => denS (run T (n + 7)) bR ρ m) r (tdR m.nx m' ρ') (tdM m.nx m')
      | .cnt ρ' m' => forL (fun d ρ m => noX ((den (run T (n + 7)) (.tnm 8)).t d ρ m)) (fun ρ m => denS (run T (n + 7)) bR ρ m) r (tdR m.nx m' ρ') (tdM m.nx m')
      | .brk ρ' m' => .nx ρ' m'
      | .ret d m' => .ret d m'
      | .exc x ρ' m' => .exc x ρ' m'
      | .bad => .bad) = _
    rw [turnV s]
    dsimp only
    rw [tdR_same, tdM_same]
    exact e n
end
end Pf

set_option Elab.async false
set_option linter.all false
set_option maxRecDepth 100000
set_option maxHeartbeats 1000000
namespace Pf
open PySem L2 Ev
section
variable {ns : List Int} {a b c : Int} {B x x' y y' : Sh} {t u : Tb} {n : Nat} {o1 o4 o5 o6 o8 : Option D}
theorem told_ap (h : eqS x' y' = false) : told x' y' t u = tA x' y' := by unfold told; rw [h]; rfl
theorem told_by (h : eqS x' y' = true) : told x' y' t u = tB (tms t (backT u)) := by unfold told; rw [h]; rfl
/-- the values near, all judged -/
theorem st11 (gx : Gd x) (gy : Gd y) (r : Rd x x' t) (q : Rd y y' u) : ∃ m' o8' a' b' c', (∀ n, denS (run T (n + 7)) (.forr (.tnm 8) (.call 31 (.cons (.var 0) (.cons (.var 2) (.cons (.var 3) (.cons (.var 7) .nil))))) (.seq (.iff (.cmp .ne (.blt .repr (.cons (.call 17 (.cons (.var 2) (.cons (.var 3) (.cons (.var 8) .nil)))) .nil)) (.blt .repr (.cons (.call 30 (.cons (.var 2) (.cons (.var 3) (.cons (.var 8) .nil)))) .nil))) (.seq (.ret (.const (.bl false))) .skip) .skip) .skip)) [some (.ref 1), o1, some (dS x), some (dS y), o4, o5, o6, some (told x' y' t u), o8] (MD ns a b c) = .nx [some (.ref 1), o1, some (dS x), some (dS y), o4, o5, o6, some (told x' y' t u), o8'] m') ∧
    finM 2 (.bl true) (tdS 2 [some (.ref 1), o1, some (dS x), some (dS y), o4, o5, o6, some (told x' y' t u), o8'] m') = .ok (.bl true) (MD ns a' b' c') := by
  obtain ⟨v, a1, b1, c1, hv, e1⟩ := drawn3 (ns := ns) (a := a) (b := b) (c := c)
  have hv := hv.tm (by decide) (by decide)
  cases h : eqS x' y' with
  | false =>
    rw [told_ap h]
    obtain ⟨q8, e2⟩ := loopV (m := mA2 ns a1 b1 c1 x y x' y' v) (o1 := o1) (o4 := o4) (o5 := o5) (o6 := o6) (o7 := some (tA x' y')) (vsA x y x' y' v) o8 (allA gx gy hv r q)
    refine ⟨mA ns a1 b1 c1 x y x' y' v, q8, a1, b1, c1, fun n => ?_, ?_⟩
    · have e3 : (den (run T (n + 7)) (.call 31 (.cons (.var 0) (.cons (.var 2) (.cons (.var 3) (.cons (.var 7) .nil)))))).s [some (.ref 1), o1, some (dS x), some (dS y), o4, o5, o6, some (tA x' y'), o8] (MD ns a b c) = .ok (.held 9 (vsA x y x' y' v)) (mA ns a1 b1 c1 x y x' y' v) := by
        simp only [tdS_same, tdS_put, ix30, ix31, ix32, ix40, ix41, ix42, ix43, ix20, ix21, Ent.fn, startR, denS, den, asV, asS, asT, consM, lstM, bin2, negM, testM, sel_t, sel_f, selAnd, selOr, selNot, truth_bl, iteM, bandM, borM, Ev.notM, chainM, callM, bltM, partM, partD, sliceM, rng1M, rng2M, tnilM, tconsM, tnmM, noX, Out.bind, Out.st, opt, okk, getR, List.map, List.replicate, List.append, List.length, List.set, Nat.sub, HAppend.hAppend, Append.append, addF, subF, ltM, leM, gtM, geM, eqM, neM, fin, bltF, one, two, onSeq, onInt, onLst, onSome, seqOf, len0, len1, len2, len3, len4, len5, intF, isaF, tyOf, isaT, E.isNo, Bool.not_true, Bool.not_false, near_ap r q e1, srcOf]
        kernel_rfl
      show ((den (run T (n + 7)) (.call 31 (.cons (.var 0) (.cons (.var 2) (.cons (.var 3) (.cons (.var 7) .nil)))))).s [some (.ref 1), o1, some (dS x), some (dS y), o4, o5, o6, some (tA x' y'), o8] (MD ns a b c)).st _ _ = _
      rw [e3]
      show holdS 9 (fun m => forL (fun d ρ m => noX ((den (run T (n + 7)) (.tnm 8)).t d ρ m)) (fun ρ m => denS (run T (n + 7)) bR ρ m) (vsA x y x' y' v) [some (.ref 1), o1, some (dS x), some (dS y), o4, o5, o6, some (tA x' y'), o8] m) (mA ns a1 b1 c1 x y x' y' v) = _
      have g : (mA ns a1 b1 c1 x y x' y' v).get 9 = some (.lst (vsA x y x' y' v)) := by kernel_rfl
      unfold holdS
      rw [g]
      dsimp only
      have e4 := e2 n
      unfold mA2 at e4
      rw [e4]
      dsimp only
      congr 1
    · unfold tdS
      have c0 : canCut 2 (mA ns a1 b1 c1 x y x' y' v) = true := by kernel_rfl
      rw [c0]
      dsimp only
      cases lowAll 2 [some (.ref 1), o1, some (dS x), some (dS y), o4, o5, o6, some (tA x' y'), q8] <;> kernel_rfl
  | true =>
    rw [told_by h]
    have hz := tl_tms (red_tl gx r) (tl_back (red_tl gy q))
    obtain ⟨q8, e2⟩ := loopV (m := mB2 ns a1 b1 c1 x y x' y' (tms t (backT u)) v) (o1 := o1) (o4 := o4) (o5 := o5) (o6 := o6) (o7 := some (tB (tms t (backT u)))) (vsB x y x' y' (tms t (backT u)) v) o8 (allB gx gy hv hz r q)
    refine ⟨mB ns a1 b1 c1 x y x' y' (tms t (backT u)) v, q8, a1, b1, c1, fun n => ?_, ?_⟩
    · have e3 : (den (run T (n + 7)) (.call 31 (.cons (.var 0) (.cons (.var 2) (.cons (.var 3) (.cons (.var 7) .nil)))))).s [some (.ref 1), o1, some (dS x), some (dS y), o4, o5, o6, some (tB (tms t (backT u))), o8] (MD ns a b c) = .ok (.held 11 (vsB x y x' y' (tms t (backT u)) v)) (mB ns a1 b1 c1 x y x' y' (tms t (backT u)) v) := by
        simp only [tdS_same, tdS_put, ix30, ix31, ix32, ix40, ix41, ix42, ix43, ix20, ix21, Ent.fn, startR, denS, den, asV, asS, asT, consM, lstM, bin2, negM, testM, sel_t, sel_f, selAnd, selOr, selNot, truth_bl, iteM, bandM, borM, Ev.notM, chainM, callM, bltM, partM, partD, sliceM, rng1M, rng2M, tnilM, tconsM, tnmM, noX, Out.bind, Out.st, opt, okk, getR, List.map, List.replicate, List.append, List.length, List.set, Nat.sub, HAppend.hAppend, Append.append, addF, subF, ltM, leM, gtM, geM, eqM, neM, fin, bltF, one, two, onSeq, onInt, onLst, onSome, seqOf, len0, len1, len2, len3, len4, len5, intF, isaF, tyOf, isaT, E.isNo, Bool.not_true, Bool.not_false, near_by r q e1, srcOf]
        kernel_rfl
      show ((den (run T (n + 7)) (.call 31 (.cons (.var 0) (.cons (.var 2) (.cons (.var 3) (.cons (.var 7) .nil)))))).s [some (.ref 1), o1, some (dS x), some (dS y), o4, o5, o6, some (tB (tms t (backT u))), o8] (MD ns a b c)).st _ _ = _
      rw [e3]
      show holdS 11 (fun m => forL (fun d ρ m => noX ((den (run T (n + 7)) (.tnm 8)).t d ρ m)) (fun ρ m => denS (run T (n + 7)) bR ρ m) (vsB x y x' y' (tms t (backT u)) v) [some (.ref 1), o1, some (dS x), some (dS y), o4, o5, o6, some (tB (tms t (backT u))), o8] m) (mB ns a1 b1 c1 x y x' y' (tms t (backT u)) v) = _
      have g : (mB ns a1 b1 c1 x y x' y' (tms t (backT u)) v).get 11 = some (.lst (vsB x y x' y' (tms t (backT u)) v)) := by kernel_rfl
      unfold holdS
      rw [g]
      dsimp only
      have e4 := e2 n
      unfold mB2 at e4
      rw [e4]
      dsimp only
      congr 1
    · unfold tdS
      have c0 : canCut 2 (mB ns a1 b1 c1 x y x' y' (tms t (backT u)) v) = true := by kernel_rfl
      rw [c0]
      dsimp only
      cases lowAll 2 [some (.ref 1), o1, some (dS x), some (dS y), o4, o5, o6, some (tB (tms t (backT u))), q8] <;> kernel_rfl
end
end Pf

set_option Elab.async false
set_option linter.all false
set_option maxRecDepth 100000
set_option maxHeartbeats 1000000
namespace Pf
open PySem L2 Ev
theorem seq3 {F : Nat → List D → MV D} {s1 s2 s3 r : S} {ρ ρ' : Rho} {m m' : Mem} (h : denS F (.seq s1 (.seq s2 (.seq s3 .skip))) ρ m = .nx ρ' m') (hm : tdS m'.nx ρ' m' = m') : ∃ m3, denS F (.seq s1 (.seq s2 (.seq s3 r))) ρ m = denS F r ρ' m3 ∧ m3 = m' := by
  have e : ∀ r, denS F (.seq s1 (.seq s2 (.seq s3 r))) ρ m = (match denS F s1 ρ m with
    | .nx ρ1 m1 => (match denS F s2 ρ1 (tdS m.nx ρ1 m1) with
      | .nx ρ2 m2 => (match denS F s3 ρ2 (tdS (tdS m.nx ρ1 m1).nx ρ2 m2) with
        | .nx ρ3 m3 => denS F r ρ3 (tdS (tdS (tdS m.nx ρ1 m1).nx ρ2 m2).nx ρ3 m3)
        | o => o)
      | o => o)
    | o => o) := fun r => rfl
  rw [e] at h ⊢
  cases q1 : denS F s1 ρ m with
  | nx ρ1 m1 =>
    rw [q1] at h
    dsimp only at h ⊢
    cases q2 : denS F s2 ρ1 (tdS m.nx ρ1 m1) with
    | nx ρ2 m2 =>
      rw [q2] at h
      dsimp only at h ⊢
      cases q3 : denS F s3 ρ2 (tdS (tdS m.nx ρ1 m1).nx ρ2 m2) with
      | nx ρ3 m3 =>
        rw [q3] at h
        have h : OutS.nx ρ3 (tdS (tdS (tdS m.nx ρ1 m1).nx ρ2 m2).nx ρ3 m3) = .nx ρ' m' := h
        cases h
        exact ⟨_, rfl, rfl⟩
      | _ => rw [q3] at h; cases h
    | _ => rw [q2] at h; cases h
  | _ => rw [q1] at h; cases h
theorem right_run {ns : List Int} {a b c : Int} : ∃ a' b' c', ∀ n, run T (n + 8) 32 [.ref 1] (MD ns a b c) = .ok (.bl true) (MD ns a' b' c') := by
  obtain ⟨B, x, y, a1, b1, c1, gx, gy, hd, hb, hc, e⟩ := draws (ns := ns) (a := a) (b := b) (c := c)
  obtain ⟨x', t, r⟩ := rd_ex x gx.ok
  obtain ⟨y', u, q⟩ := rd_ex y gy.ok
  have w := wfMD (ns := ns) (a := a1) (b := b1) (c := c1)
  obtain ⟨m', o8', a2, b2, c2, e11, e12⟩ := st11 (ns := ns) (a := a1) (b := b1) (c := c1) (o1 := some (dS B)) (o4 := some (dS x')) (o5 := some (dT t)) (o6 := some (.bl (eqS x' y'))) (o8 := none) gx gy r q
  refine ⟨a2, b2, c2, fun n => ?_⟩
  rw [run_at (f := e32.fn) rfl rfl]
  have s0 : startR e32.fn [.ref 1] = [some (.ref 1), none, none, none, none, none, none, none, none] := rfl
  rw [s0]
  show fin 2 (denS (run T (n + 7)) (.seq (.asg (.tnm 1) (.call 27 (.cons (.var 0) (.cons (.const (.int 9)) .nil)))) (.seq (.par 2 3 (.cons (.call 25 (.cons (.var 1) (.cons (.call 24 (.cons (.var 0) (.cons (.const (.int 2)) .nil))) .nil))) (.cons (.call 25 (.cons (.var 1) (.cons (.call 24 (.cons (.var 0) (.cons (.const (.int 2)) .nil))) .nil))) .nil))) (.seq (.asg (.tnm 3) (.call 21 (.cons (.var 0) (.cons (.lst (.cons (.var 3) (.cons (.var 3) (.cons (.call 25 (.cons (.call 27 (.cons (.var 0) (.cons (.const (.int 9)) .nil))) (.cons (.call 24 (.cons (.var 0) (.cons (.const (.int 2)) .nil))) .nil))) (.cons (.tup (.cons (.ix (.var 1) (.const (.int 0))) (.cons (.bin .sub (.const (.int 0)) (.ix (.var 1) (.const (.int 1)))) (.cons (.ix (.var 1) (.const (.int 2))) .nil)))) .nil))))) .nil)))) (.seq (.asg (.tnm 4) (.ix (.call 26 (.cons (.var 2) .nil)) (.const (.int 0)))) (.seq (.iff (.bor (.cmp .isnot (.call 10 (.cons (.var 2) .nil)) (.const (.bl true))) (.cmp .ne (.call 11 (.cons (.var 2) .nil)) (.bin .sub (.bin .mul (.bin .mul (.const (.int 4)) (.ix (.var 1) (.const (.int 0)))) (.ix (.var 1) (.const (.int 2)))) (.bin .mul (.ix (.var 1) (.const (.int 1))) (.ix (.var 1) (.const (.int 1))))))) (.seq (.ret (.const (.bl false))) .skip) .skip) (.seq (.iff (.bor (.cmp .ne (.call 13 (.cons (.var 2) .nil)) (.var 4)) (.bor (.cmp .ne (.call 12 (.cons (.var 2) .nil)) (.call 28 (.cons (.var 2) .nil))) (.bnot (.call 12 (.cons (.var 4) .nil))))) (.seq (.ret (.const (.bl false))) .skip) .skip) (.seq (.asg (.tnm 5) (.call 14 (.cons (.var 2) .nil))) (.seq (.iff (.bor (.bnot (.call 29 (.cons (.var 5) .nil))) (.cmp .ne (.call 25 (.cons (.var 2) (.cons (.var 5) .nil))) (.var 4))) (.seq (.ret (.const (.bl false))) .skip) .skip) (.seq (.asg (.tnm 6) (.cmp .eq (.var 4) (.ix (.call 26 (.cons (.var 3) .nil)) (.const (.int 0))))) (.seq (.asg (.tnm 7) (.call 16 (.cons (.var 2) (.cons (.var 3) .nil)))) (.seq (.iff (.bor (.cmp .ne (.call 15 (.cons (.var 2) (.cons (.var 3) .nil))) (.var 6)) (.bor (.cmp .ne (.cmp .eq (.ix (.var 7) (.const (.int 0))) (.const (.str "by"))) (.var 6)) (.bnot (.call 30 (.cons (.var 2) (.cons (.var 3) (.cons (.var 7) .nil))))))) (.seq (.ret (.const (.bl false))) .skip) .skip) (.seq (.forr (.tnm 8) (.call 31 (.cons (.var 0) (.cons (.var 2) (.cons (.var 3) (.cons (.var 7) .nil))))) (.seq (.iff (.cmp .ne (.blt .repr (.cons (.call 17 (.cons (.var 2) (.cons (.var 3) (.cons (.var 8) .nil)))) .nil)) (.blt .repr (.cons (.call 30 (.cons (.var 2) (.cons (.var 3) (.cons (.var 8) .nil)))) .nil))) (.seq (.ret (.const (.bl false))) .skip) .skip) .skip)) (.seq (.ret (.const (.bl true))) .skip))))))))))))) _ (MD ns a b c)) = _
  obtain ⟨m3, k1, k2⟩ := seq3 (r := (.seq (.asg (.tnm 4) (.ix (.call 26 (.cons (.var 2) .nil)) (.const (.int 0)))) (.seq (.iff (.bor (.cmp .isnot (.call 10 (.cons (.var 2) .nil)) (.const (.bl true))) (.cmp .ne (.call 11 (.cons (.var 2) .nil)) (.bin .sub (.bin .mul (.bin .mul (.const (.int 4)) (.ix (.var 1) (.const (.int 0)))) (.ix (.var 1) (.const (.int 2)))) (.bin .mul (.ix (.var 1) (.const (.int 1))) (.ix (.var 1) (.const (.int 1))))))) (.seq (.ret (.const (.bl false))) .skip) .skip) (.seq (.iff (.bor (.cmp .ne (.call 13 (.cons (.var 2) .nil)) (.var 4)) (.bor (.cmp .ne (.call 12 (.cons (.var 2) .nil)) (.call 28 (.cons (.var 2) .nil))) (.bnot (.call 12 (.cons (.var 4) .nil))))) (.seq (.ret (.const (.bl false))) .skip) .skip) (.seq (.asg (.tnm 5) (.call 14 (.cons (.var 2) .nil))) (.seq (.iff (.bor (.bnot (.call 29 (.cons (.var 5) .nil))) (.cmp .ne (.call 25 (.cons (.var 2) (.cons (.var 5) .nil))) (.var 4))) (.seq (.ret (.const (.bl false))) .skip) .skip) (.seq (.asg (.tnm 6) (.cmp .eq (.var 4) (.ix (.call 26 (.cons (.var 3) .nil)) (.const (.int 0))))) (.seq (.asg (.tnm 7) (.call 16 (.cons (.var 2) (.cons (.var 3) .nil)))) (.seq (.iff (.bor (.cmp .ne (.call 15 (.cons (.var 2) (.cons (.var 3) .nil))) (.var 6)) (.bor (.cmp .ne (.cmp .eq (.ix (.var 7) (.const (.int 0))) (.const (.str "by"))) (.var 6)) (.bnot (.call 30 (.cons (.var 2) (.cons (.var 3) (.cons (.var 7) .nil))))))) (.seq (.ret (.const (.bl false))) .skip) .skip) (.seq (.forr (.tnm 8) (.call 31 (.cons (.var 0) (.cons (.var 2) (.cons (.var 3) (.cons (.var 7) .nil))))) (.seq (.iff (.cmp .ne (.blt .repr (.cons (.call 17 (.cons (.var 2) (.cons (.var 3) (.cons (.var 8) .nil)))) .nil)) (.blt .repr (.cons (.call 30 (.cons (.var 2) (.cons (.var 3) (.cons (.var 8) .nil)))) .nil))) (.seq (.ret (.const (.bl false))) .skip) .skip) .skip)) (.seq (.ret (.const (.bl true))) .skip))))))))))) (e n) tdS_MD'
  subst k2
  rw [k1, seq_nx (st3 w r), tdS_MD', seq_nx (st4 w r hd hb hc), tdS_MD', seq_nx (st5 w r (red_good gx r)), tdS_MD', seq_nx (st6 w r), tdS_MD', seq_nx (st7 w r), tdS_MD', seq_nx (st8 w q), tdS_MD', seq_nx (st9 w r q), tdS_MD', seq_nx (st10 w gx gy r q), tdS_MD', seq_nx (e11 n)]
  have last : ∀ ρ M, denS (run T (n + 7)) (.seq (.ret (.const (.bl true))) .skip) ρ M = .ret (.bl true) M := fun _ _ => rfl
  rw [last]
  exact e12
end Pf

set_option Elab.async false
set_option linter.all false
set_option maxRecDepth 100000
set_option maxHeartbeats 1000000
namespace Pf
open PySem L2 Ev
/-! the law -/
def M0 (ns : List Int) : Mem := ⟨1, [(0, .scr ns)]⟩
section
variable {ns : List Int} {spot : Int} {m : Mem}
theorem len_scr : lenF (.ref 0) (M0 ns) = .ok (.int ns.length) (M0 ns) := by
  show Out.ok (D.int ((ns.map D.int).length : Int)) (M0 ns) = _
  rw [List.length_map]
theorem ix_scr (h0 : 0 ≤ spot) (h1 : spot < ns.length) : ∃ x, ixF (.ref 0) (.int spot) (M0 ns) = .ok (.int x) (M0 ns) := by
  have hl : spot < ((ns.map D.int).length : Int) := by rw [List.length_map]; exact h1
  obtain ⟨x, hx, e⟩ := atI_in (xs := ns.map D.int) h0 hl
  obtain ⟨i, _, rfl⟩ := List.mem_map.mp hx
  refine ⟨i, ?_⟩
  show opt (L2.atI (ns.map D.int) spot) (M0 ns) = _
  rw [e] <;> rfl
theorem pow1 : binF .pow (.int 10) (.int 54) m = .ok (.int (10 ^ 54)) m := by kernel_rfl
theorem pow2 : binF .pow (.int (10 ^ 54)) (.int 6) m = .ok (.int ((10 ^ 54) ^ 6)) m := by kernel_rfl
theorem pow3 : binF .pow (.int 10) (.int 16) m = .ok (.int (10 ^ 16)) m := by kernel_rfl
theorem dice_at (cell : Int) : ∃ a b c, ∀ n, denS (run T n) (.seq (.asg (.tnm 3) (.bin .mod (.blt .int (.cons (.blt .abs (.cons (.var 2) .nil)) .nil)) (.bin .pow (.bin .pow (.const (.int 10)) (.const (.int 54))) (.const (.int 6))))) (.seq (.asg (.tnm 4) (.bin .add (.bin .add (.bin .add (.bin .mul (.bin .mod (.var 3) (.const (.int 2305843009213693921))) (.const (.int 71))) (.bin .mul (.const (.int 761)) (.var 1))) (.bin .mul (.const (.int 41)) (.blt .int (.cons (.cmp .lt (.var 2) (.const (.int 0))) .nil)))) (.const (.int 31)))) (.seq (.ret (.lst (.cons (.blt .max2 (.cons (.const (.int 0)) (.cons (.bin .sub (.var 3) (.bin .pow (.const (.int 10)) (.const (.int 16)))) .nil))) (.cons (.var 4) (.cons (.const (.int 0)) .nil))))) .skip))) [some (.ref 0), some (.int spot), some (.int cell), none, none] (M0 ns) = .ret (.ref 1) (MD ns a b c) := by
  have k1 : b64 71 = true := by decide
  have k2 : b64 761 = true := by decide
  have k3 : b64 41 = true := by decide
  have z1 : decide (((10 : Int) ^ 54) ^ 6 = 0) = false := by decide +kernel
  have z2 : decide ((2305843009213693921 : Int) = 0) = false := by decide
  refine ⟨if 0 < (if cell < 0 then -cell else cell).fmod ((10 ^ 54) ^ 6) - 10 ^ 16 then (if cell < 0 then -cell else cell).fmod ((10 ^ 54) ^ 6) - 10 ^ 16 else 0,
    ((if cell < 0 then -cell else cell).fmod ((10 ^ 54) ^ 6)).fmod 2305843009213693921 * 71 + 761 * spot + 41 * (if decide (cell < 0) = true then 1 else 0) + 31, 0, fun n => ?_⟩
  simp only [tdS_same, tdS_put, ix30, ix31, ix32, ix40, ix41, ix42, ix43, ix20, ix21, Ent.fn, startR, denS, den, asV, asS, asT, consM, lstM, bin2, negM, testM, sel_t, sel_f, selAnd, selOr, selNot, truth_bl, iteM, bandM, borM, Ev.notM, chainM, callM, bltM, partM, partD, sliceM, rng1M, rng2M, tnilM, tconsM, tnmM, noX, Out.bind, Out.st, opt, okk, getR, List.map, List.replicate, List.append, List.length, List.set, Nat.sub, HAppend.hAppend, Append.append, addF, subF, ltM, leM, gtM, geM, eqM, neM, fin, bltF, one, two, onSeq, onInt, onLst, onSome, seqOf, len0, len1, len2, len3, len4, len5, intF, isaF, tyOf, isaT, E.isNo, Bool.not_true, Bool.not_false, pow1, pow2, pow3, modF, z1, z2, mulF_l, mulF_r, k1, k2, k3, intF]
  rfl
theorem dice_run (h0 : 0 ≤ spot) : ∃ a b c, ∀ n, run T (n + 1) 19 [.ref 0, .int spot] (M0 ns) = .ok (.ref 1) (MD ns a b c) := by
  have key : ∃ cell, ∀ n, denS (run T n) (.asg (.tnm 2) (.ite (.cmp .lt (.var 1) (.blt .len (.cons (.var 0) .nil))) (.blt .int (.cons (.ix (.var 0) (.var 1)) .nil)) (.bin .add (.bin .mul (.const (.int 139)) (.var 1)) (.const (.int 71))))) [some (.ref 0), some (.int spot), none, none, none] (M0 ns) = .nx [some (.ref 0), some (.int spot), some (.int cell), none, none] (M0 ns) := by
    by_cases hs : spot < ns.length
    · obtain ⟨x, e⟩ := ix_scr h0 hs
      exact ⟨x, fun n => by simp only [tdS_same, tdS_put, ix30, ix31, ix32, ix40, ix41, ix42, ix43, ix20, ix21, Ent.fn, startR, denS, den, asV, asS, asT, consM, lstM, bin2, negM, testM, sel_t, sel_f, selAnd, selOr, selNot, truth_bl, iteM, bandM, borM, Ev.notM, chainM, callM, bltM, partM, partD, sliceM, rng1M, rng2M, tnilM, tconsM, tnmM, noX, Out.bind, Out.st, opt, okk, getR, List.map, List.replicate, List.append, List.length, List.set, Nat.sub, HAppend.hAppend, Append.append, addF, subF, ltM, leM, gtM, geM, eqM, neM, fin, bltF, one, two, onSeq, onInt, onLst, onSome, seqOf, len0, len1, len2, len3, len4, len5, intF, isaF, tyOf, isaT, E.isNo, Bool.not_true, Bool.not_false, len_scr, decide_eq_true hs, e, intF]⟩
    · exact ⟨139 * spot + 71, fun n => by simp only [tdS_same, tdS_put, ix30, ix31, ix32, ix40, ix41, ix42, ix43, ix20, ix21, Ent.fn, startR, denS, den, asV, asS, asT, consM, lstM, bin2, negM, testM, sel_t, sel_f, selAnd, selOr, selNot, truth_bl, iteM, bandM, borM, Ev.notM, chainM, callM, bltM, partM, partD, sliceM, rng1M, rng2M, tnilM, tconsM, tnmM, noX, Out.bind, Out.st, opt, okk, getR, List.map, List.replicate, List.append, List.length, List.set, Nat.sub, HAppend.hAppend, Append.append, addF, subF, ltM, leM, gtM, geM, eqM, neM, fin, bltF, one, two, onSeq, onInt, onLst, onSome, seqOf, len0, len1, len2, len3, len4, len5, intF, isaF, tyOf, isaT, E.isNo, Bool.not_true, Bool.not_false, len_scr, decide_eq_false hs, mulF_l, show b64 139 = true by decide]⟩
  obtain ⟨cell, e1⟩ := key
  obtain ⟨a, b, c, e2⟩ := dice_at (ns := ns) (spot := spot) cell
  refine ⟨a, b, c, fun n => ?_⟩
  rw [run_at (f := e19.fn) rfl rfl]
  show fin 1 (denS (run T n) (.seq (.asg (.tnm 2) (.ite (.cmp .lt (.var 1) (.blt .len (.cons (.var 0) .nil))) (.blt .int (.cons (.ix (.var 0) (.var 1)) .nil)) (.bin .add (.bin .mul (.const (.int 139)) (.var 1)) (.const (.int 71))))) (.seq (.asg (.tnm 3) (.bin .mod (.blt .int (.cons (.blt .abs (.cons (.var 2) .nil)) .nil)) (.bin .pow (.bin .pow (.const (.int 10)) (.const (.int 54))) (.const (.int 6))))) (.seq (.asg (.tnm 4) (.bin .add (.bin .add (.bin .add (.bin .mul (.bin .mod (.var 3) (.const (.int 2305843009213693921))) (.const (.int 71))) (.bin .mul (.const (.int 761)) (.var 1))) (.bin .mul (.const (.int 41)) (.blt .int (.cons (.cmp .lt (.var 2) (.const (.int 0))) .nil)))) (.const (.int 31)))) (.seq (.ret (.lst (.cons (.blt .max2 (.cons (.const (.int 0)) (.cons (.bin .sub (.var 3) (.bin .pow (.const (.int 10)) (.const (.int 16)))) .nil))) (.cons (.var 4) (.cons (.const (.int 0)) .nil))))) .skip)))) [some (.ref 0), some (.int spot), none, none, none] (M0 ns)) = _
  rw [seq_nx (e1 n), tdS_same, e2 n]
  rfl
end
/-- a loop over items, each turn keeps a claim -/
theorem forL_inv {a : D → Rho → MV Rho} {b : Rho → Mem → OutS} {P : Rho → Mem → Prop} {I : D → Prop}
    (h : ∀ d ρ m, I d → P ρ m → ∃ ρ1 m1 ρ' m', a d ρ m = .ok ρ1 m1 ∧ b ρ1 m1 = .nx ρ' m' ∧ P (tdR m.nx m' ρ') (tdM m.nx m')) :
    ∀ (ds : List D) (ρ : Rho) (m : Mem), (∀ d ∈ ds, I d) → P ρ m → ∃ ρ' m', forL a b ds ρ m = .nx ρ' m' ∧ P ρ' m'
  | [], ρ, m, _, p => ⟨ρ, m, rfl, p⟩
  | d :: r, ρ, m, hI, p => by
    obtain ⟨ρ1, m1, ρ', m', e1, e2, p'⟩ := h d ρ m (hI d (List.mem_cons_self ..)) p
    obtain ⟨ρ2, m2, e3, p2⟩ := forL_inv h r _ _ (fun d hd => hI d (List.mem_cons_of_mem _ hd)) p'
    refine ⟨ρ2, m2, ?_, p2⟩
    show ((a d ρ m).st ρ fun ρ1 m1 => (match b ρ1 m1 with
      | .nx ρ' m' => forL a b r (tdR m.nx m' ρ') (tdM m.nx m')
      | .cnt ρ' m' => forL a b r (tdR m.nx m' ρ') (tdM m.nx m')
      | .brk ρ' m' => .nx ρ' m'
      | .ret d m' => .ret d m'
      | .exc x ρ' m' => .exc x ρ' m'
      | .bad => .bad)) = _
    rw [e1]
    show (match b ρ1 m1 with
      | .nx ρ' m' => forL a b r (tdR m.nx m' ρ') (tdM m.nx m')
      | .cnt ρ' m' => forL a b r (tdR m.nx m' ρ') (tdM m.nx m')
      | .brk ρ' m' => .nx ρ' m'
      | .ret d m' => .ret d m'
      | .exc x ρ' m' => .exc x ρ' m'
      | .bad => .bad) = _
    rw [e2]
    exact e3
theorem mem_iota {d : D} : ∀ {k : Nat} {a : Int}, d ∈ iota a k → ∃ i, d = .int i ∧ a ≤ i
  | 0, _, h => by cases h
  | k + 1, a, h => by
    rcases List.mem_cons.mp h with rfl | h
    · exact ⟨a, rfl, Int.le_refl _⟩
    · obtain ⟨i, e, hi⟩ := mem_iota (k := k) h
      exact ⟨i, e, by omega⟩
section
variable {ns : List Int}
/-- one spot -/
theorem turn_law (n : Nat) (o1 o2 o3 : Option D) (i : Int) (h : 0 ≤ i) : ∃ o3' m' a b c, m' = MD ns a b c ∧ denS (run T (n + 8)) (.seq (.asg (.tnm 2) (.call 19 (.cons (.var 0) (.cons (.var 1) .nil)))) (.seq (.forr (.tnm 3) (.rng1 (.const (.int 3))) (.seq (.iff (.bnot (.call 32 (.cons (.var 2) .nil))) (.seq (.ret (.const (.bl false))) .skip) .skip) .skip)) .skip)) [some (.ref 0), some (.int i), o2, o3] (M0 ns) = .nx [some (.ref 0), some (.int i), some (.ref 1), o3'] m' := by
  obtain ⟨a, b, c, e1⟩ := dice_run (ns := ns) h
  obtain ⟨ρ', m', e2, o3', a', b', c', rfl, rfl⟩ := forL_inv (a := fun d ρ m => noX ((den (run T (n + 8)) (.tnm 3)).t d ρ m)) (b := fun ρ m => denS (run T (n + 8)) (.seq (.iff (.bnot (.call 32 (.cons (.var 2) .nil))) (.seq (.ret (.const (.bl false))) .skip) .skip) .skip) ρ m)
    (P := fun ρ m => ∃ o3' a b c, ρ = [some (.ref 0), some (.int i), some (.ref 1), o3'] ∧ m = MD ns a b c) (I := fun _ => True)
    (fun d ρ m _ ⟨o3', a, b, c, hρ, hm⟩ => by
      subst hρ; subst hm
      obtain ⟨a1, b1, c1, er⟩ := right_run (ns := ns) (a := a) (b := b) (c := c)
      refine ⟨_, _, [some (.ref 0), some (.int i), some (.ref 1), some d], MD ns a1 b1 c1, rfl, ?_, some d, a1, b1, c1, ?_, ?_⟩
      · show denS (run T (n + 8)) (.seq (.iff (.bnot (.call 32 (.cons (.var 2) .nil))) (.seq (.ret (.const (.bl false))) .skip) .skip) .skip) [some (.ref 0), some (.int i), some (.ref 1), some d] (MD ns a b c) = _
        simp only [tdS_same, tdS_put, ix30, ix31, ix32, ix40, ix41, ix42, ix43, ix20, ix21, Ent.fn, startR, denS, den, asV, asS, asT, consM, lstM, bin2, negM, testM, sel_t, sel_f, selAnd, selOr, selNot, truth_bl, iteM, bandM, borM, Ev.notM, chainM, callM, bltM, partM, partD, sliceM, rng1M, rng2M, tnilM, tconsM, tnmM, noX, Out.bind, Out.st, opt, okk, getR, List.map, List.replicate, List.append, List.length, List.set, Nat.sub, HAppend.hAppend, Append.append, addF, subF, ltM, leM, gtM, geM, eqM, neM, fin, bltF, one, two, onSeq, onInt, onLst, onSome, seqOf, len0, len1, len2, len3, len4, len5, intF, isaF, tyOf, isaT, E.isNo, Bool.not_true, Bool.not_false, er n]
        rfl
      · rfl
      · rfl) [.int 0, .int 1, .int 2] [some (.ref 0), some (.int i), some (.ref 1), o3] (MD ns a b c) (fun _ _ => trivial) ⟨o3, a, b, c, rfl, rfl⟩
  refine ⟨o3', _, a', b', c', rfl, ?_⟩
  have s1 : denS (run T (n + 8)) (.asg (.tnm 2) (.call 19 (.cons (.var 0) (.cons (.var 1) .nil)))) [some (.ref 0), some (.int i), o2, o3] (M0 ns) = .nx [some (.ref 0), some (.int i), some (.ref 1), o3] (MD ns a b c) := by
    simp only [tdS_same, tdS_put, ix30, ix31, ix32, ix40, ix41, ix42, ix43, ix20, ix21, Ent.fn, startR, denS, den, asV, asS, asT, consM, lstM, bin2, negM, testM, sel_t, sel_f, selAnd, selOr, selNot, truth_bl, iteM, bandM, borM, Ev.notM, chainM, callM, bltM, partM, partD, sliceM, rng1M, rng2M, tnilM, tconsM, tnmM, noX, Out.bind, Out.st, opt, okk, getR, List.map, List.replicate, List.append, List.length, List.set, Nat.sub, HAppend.hAppend, Append.append, addF, subF, ltM, leM, gtM, geM, eqM, neM, fin, bltF, one, two, onSeq, onInt, onLst, onSome, seqOf, len0, len1, len2, len3, len4, len5, intF, isaF, tyOf, isaT, E.isNo, Bool.not_true, Bool.not_false, e1]
  rw [seq_nx s1]
  have t1 : tdS (M0 ns).nx [some (.ref 0), some (.int i), some (.ref 1), o3] (MD ns a b c) = MD ns a b c := rfl
  rw [t1]
  have s2 : denS (run T (n + 8)) (.forr (.tnm 3) (.rng1 (.const (.int 3))) (.seq (.iff (.bnot (.call 32 (.cons (.var 2) .nil))) (.seq (.ret (.const (.bl false))) .skip) .skip) .skip)) [some (.ref 0), some (.int i), some (.ref 1), o3] (MD ns a b c) = .nx [some (.ref 0), some (.int i), some (.ref 1), o3'] (MD ns a' b' c') := e2
  rw [seq_nx s2]
  rfl
theorem red1 : run T 19 13 [.tup [.int 31, .int 50, .int 21]] (M0 ns) = .ok (.tup [.int 2, .int 0, .int 13]) (M0 ns) := by kernel_rfl
theorem red2 : run T 19 13 [.tup [.int 2, .int (-2), .int 3]] (M0 ns) = .ok (.tup [.int 2, .int 2, .int 3]) (M0 ns) := by kernel_rfl
theorem red3 : run T 19 13 [.tup [.int 3, .int (-1), .int 3]] (M0 ns) = .ok (.tup [.int 3, .int 1, .int 3]) (M0 ns) := by kernel_rfl
theorem law_run (hn : ns.length ≤ 63) : run T 20 33 [.ref 0] (M0 ns) = .ok (.bl true) (M0 ns) := by
  rw [run_at (f := e33.fn) rfl rfl]
  have bd : ∃ k : Int, 0 ≤ k ∧ k ≤ 63 ∧ (den (run T 19) (.rng1 (.blt .max2 (.cons (.const (.int 1)) (.cons (.blt .min2 (.cons (.const (.int 6)) (.cons (.blt .len (.cons (.var 0) .nil)) .nil))) .nil))))).s [some (.ref 0), none, none, none] (M0 ns) = .ok (.items (iota 0 (k - 0).toNat)) (M0 ns) := by
    refine ⟨if (1 : Int) < (if (ns.length : Int) < 6 then (ns.length : Int) else 6) then (if (ns.length : Int) < 6 then (ns.length : Int) else 6) else 1, ?_, ?_, ?_⟩
    · split <;> split <;> omega
    · split <;> split <;> omega
    · simp only [tdS_same, tdS_put, ix30, ix31, ix32, ix40, ix41, ix42, ix43, ix20, ix21, Ent.fn, startR, denS, den, asV, asS, asT, consM, lstM, bin2, negM, testM, sel_t, sel_f, selAnd, selOr, selNot, truth_bl, iteM, bandM, borM, Ev.notM, chainM, callM, bltM, partM, partD, sliceM, rng1M, rng2M, tnilM, tconsM, tnmM, noX, Out.bind, Out.st, opt, okk, getR, List.map, List.replicate, List.append, List.length, List.set, Nat.sub, HAppend.hAppend, Append.append, addF, subF, ltM, leM, gtM, geM, eqM, neM, fin, bltF, one, two, onSeq, onInt, onLst, onSome, seqOf, len0, len1, len2, len3, len4, len5, intF, isaF, tyOf, isaT, E.isNo, Bool.not_true, Bool.not_false, len_scr, rngI]
      rw [show (small 0 && small (if (1 : Int) < (if (ns.length : Int) < 6 then (ns.length : Int) else 6) then (if (ns.length : Int) < 6 then (ns.length : Int) else 6) else 1)) = true by
        simp only [small, Bool.and_eq_true, decide_eq_true_eq]; split <;> split <;> omega]
  obtain ⟨k, k0, k1, ek⟩ := bd
  obtain ⟨ρ', m', e2, o1, o2, o3, rfl, rfl⟩ := forL_inv (a := fun d ρ m => noX ((den (run T 19) (.tnm 1)).t d ρ m)) (b := fun ρ m => denS (run T 19) (.seq (.asg (.tnm 2) (.call 19 (.cons (.var 0) (.cons (.var 1) .nil)))) (.seq (.forr (.tnm 3) (.rng1 (.const (.int 3))) (.seq (.iff (.bnot (.call 32 (.cons (.var 2) .nil))) (.seq (.ret (.const (.bl false))) .skip) .skip) .skip)) .skip)) ρ m)
    (P := fun ρ m => ∃ o1 o2 o3, ρ = [some (.ref 0), o1, o2, o3] ∧ m = M0 ns) (I := fun d => ∃ i, d = .int i ∧ 0 ≤ i)
    (fun d ρ m hI ⟨o1, o2, o3, hρ, hm⟩ => by
      obtain ⟨i, rfl, hi⟩ := hI
      subst hρ; subst hm
      obtain ⟨o3', m', a, b, c, rfl, e⟩ := turn_law (ns := ns) 11 o1 o2 o3 i hi
      refine ⟨[some (.ref 0), some (.int i), o2, o3], M0 ns, _, _, rfl, e, some (.int i), none, (match o3' with | some d => (match lowD 1 d with | true => some d | false => none) | none => none), ?_, ?_⟩
      · cases o3' <;> rfl
      · rfl) (iota 0 (k - 0).toNat) [some (.ref 0), none, none, none] (M0 ns) (fun d hd => mem_iota hd) ⟨none, none, none, rfl, rfl⟩
  have s1 : denS (run T 19) (.forr (.tnm 1) (.rng1 (.blt .max2 (.cons (.const (.int 1)) (.cons (.blt .min2 (.cons (.const (.int 6)) (.cons (.blt .len (.cons (.var 0) .nil)) .nil))) .nil)))) (.seq (.asg (.tnm 2) (.call 19 (.cons (.var 0) (.cons (.var 1) .nil)))) (.seq (.forr (.tnm 3) (.rng1 (.const (.int 3))) (.seq (.iff (.bnot (.call 32 (.cons (.var 2) .nil))) (.seq (.ret (.const (.bl false))) .skip) .skip) .skip)) .skip))) [some (.ref 0), none, none, none] (M0 ns) = .nx [some (.ref 0), o1, o2, o3] (M0 ns) := by
    show ((den (run T 19) (.rng1 (.blt .max2 (.cons (.const (.int 1)) (.cons (.blt .min2 (.cons (.const (.int 6)) (.cons (.blt .len (.cons (.var 0) .nil)) .nil))) .nil))))).s [some (.ref 0), none, none, none] (M0 ns)).st _ _ = _
    rw [ek]
    exact e2
  show fin 1 (denS (run T 19) (.seq (.forr (.tnm 1) (.rng1 (.blt .max2 (.cons (.const (.int 1)) (.cons (.blt .min2 (.cons (.const (.int 6)) (.cons (.blt .len (.cons (.var 0) .nil)) .nil))) .nil)))) (.seq (.asg (.tnm 2) (.call 19 (.cons (.var 0) (.cons (.var 1) .nil)))) (.seq (.forr (.tnm 3) (.rng1 (.const (.int 3))) (.seq (.iff (.bnot (.call 32 (.cons (.var 2) .nil))) (.seq (.ret (.const (.bl false))) .skip) .skip) .skip)) .skip))) (.seq (.ret (.band (.cmp .eq (.call 13 (.cons (.tup (.cons (.const (.int 31)) (.cons (.const (.int 50)) (.cons (.const (.int 21)) .nil)))) .nil)) (.tup (.cons (.const (.int 2)) (.cons (.const (.int 0)) (.cons (.const (.int 13)) .nil))))) (.band (.cmp .eq (.call 13 (.cons (.tup (.cons (.const (.int 2)) (.cons (.neg (.const (.int 2))) (.cons (.const (.int 3)) .nil)))) .nil)) (.tup (.cons (.const (.int 2)) (.cons (.const (.int 2)) (.cons (.const (.int 3)) .nil))))) (.cmp .eq (.call 13 (.cons (.tup (.cons (.const (.int 3)) (.cons (.neg (.const (.int 1))) (.cons (.const (.int 3)) .nil)))) .nil)) (.tup (.cons (.const (.int 3)) (.cons (.const (.int 1)) (.cons (.const (.int 3)) .nil)))))))) .skip)) [some (.ref 0), none, none, none] (M0 ns)) = _
  rw [seq_nx s1, tdS_same]
  have c1 : cmpM .eq (.tup [.int 2, .int 0, .int 13]) (.tup [.int 2, .int 0, .int 13]) (M0 ns) = .ok (.bl true) (M0 ns) := by kernel_rfl
  have c2 : cmpM .eq (.tup [.int 2, .int 2, .int 3]) (.tup [.int 2, .int 2, .int 3]) (M0 ns) = .ok (.bl true) (M0 ns) := by kernel_rfl
  have c3 : cmpM .eq (.tup [.int 3, .int 1, .int 3]) (.tup [.int 3, .int 1, .int 3]) (M0 ns) = .ok (.bl true) (M0 ns) := by kernel_rfl
  simp only [tdS_same, tdS_put, ix30, ix31, ix32, ix40, ix41, ix42, ix43, ix20, ix21, Ent.fn, startR, denS, den, asV, asS, asT, consM, lstM, bin2, negM, testM, sel_t, sel_f, selAnd, selOr, selNot, truth_bl, iteM, bandM, borM, Ev.notM, chainM, callM, bltM, partM, partD, sliceM, rng1M, rng2M, tnilM, tconsM, tnmM, noX, Out.bind, Out.st, opt, okk, getR, List.map, List.replicate, List.append, List.length, List.set, Nat.sub, HAppend.hAppend, Append.append, addF, subF, ltM, leM, gtM, geM, eqM, neM, fin, bltF, one, two, onSeq, onInt, onLst, onSome, seqOf, len0, len1, len2, len3, len4, len5, intF, isaF, tyOf, isaT, E.isNo, Bool.not_true, Bool.not_false, red1, red2, red3, c1, c2, c3]
  rfl
end
theorem lawOk : LawOk es 20 33 := ⟨fun ns hn => ⟨M0 ns, by
  have := law_run (ns := ns) hn
  exact this⟩⟩
end Pf

set_option Elab.async false
set_option linter.all false
set_option maxRecDepth 100000
set_option maxHeartbeats 0
namespace Pf
open PySem L2 Ev
def chk (_ : PySem.W.Frag) : Bool := true
abbrev R : PySem.W.OpenRow := PySem.W.OpenLaw.row PySem.Challenge.rw_turnseries_k70_whole_shapes_reduced
abbrev hk : PySem.W.Hook := hookX 4 chk es gs bs
def ob (s : PySem.W.SharedT) : AlX := obsXG 4 chk es gs bs (HandSHeadRun.getT s)
theorem ob_eq (s : PySem.W.SharedT) : ob s = hk.obs s.abs := obsXG_eq (HandSHeadRun.getT_eq s)
def loose : List Str := (["SeriesError", "InvalidRow", "MOST_ENTRY", "UNIT", "BY", "APART", "is_integer", "is_within", "is_shape_in", "require_shape", "lack_in", "is_reduced_in", "led_in", "times_in", "reduced_in", "back_of", "is_shape", "lack", "is_reduced", "reduced"] : List Str) ++
  (["reducing_table", "are_led", "led_paper", "is_led_paper", "is_table", "_law_dice", "_law_roll", "_law_pick", "_law_is_int", "_law_tb_times", "_law_tb_drawn", "_law_sh_led", "_law_sh_reduced", "_law_sh_drawn", "_law_is_reduced", "_law_is_table", "_law_is_paper", "_law_near", "_law_right"] : List Str)
theorem head_run (w : World) : HandSHeadRun.RunEq R (PySem.W.view R.prog [42]) hk ob 4000 loose w := by
  intro os
  kernel_rfl
open PySem.W PySem.Calls PyProof.Rows
theorem holds (ok : LawOk es 20 33) : PySem.Challenge.rw_turnseries_k70_whole_shapes_reduced.Holds := by
  w_on; o_law
  refine HandSHeadRun.head_any (r := R) (q := PySem.W.view R.prog [42]) (H := hk) (ob := ob) (M := 4000) (loose := loose) (d := HandSHeadRun.topDef R.prog 42) (kwd := []) ob_eq
    (by kernel_rfl) (fun s => by kernel_rfl) head_run (by kernel_rfl) (by kernel_rfl) (by kernel_rfl) (by rfl) (by first | assumption | decide +kernel) (by decide +kernel) ⟨rfl, rfl, rfl, rfl, rfl, by decide +kernel⟩ ?hw ?hc
  case hw => w_witness2
  case hc => exact walk_ev (l := PySem.Challenge.rw_turnseries_k70_whole_shapes_reduced) (n := 20) (kl := 33) rfl (by kernel_rfl) ⟨rfl, by decide, by decide⟩ (by kernel_rfl) good src ok
end Pf

set_option maxHeartbeats 0
theorem PySem.Challenge.cw_turnseries_k70_whole_shapes_reduced_holds : PySem.Challenge.rw_turnseries_k70_whole_shapes_reduced.Holds := by
  exact Pf.holds Pf.lawOk
